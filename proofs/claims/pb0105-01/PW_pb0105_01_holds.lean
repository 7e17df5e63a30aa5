import PyProof.Rows.All
import Wide.All
import OpenK.AllK
import Wide.FinOn
import Lean
import PySem.Challenge.RW_pb0105_01
set_option Elab.async false
set_option linter.all false
open PySem PySem.W PyProof.Rows
set_option maxRecDepth 100000
set_option maxHeartbeats 0
set_option compiler.extract_closed false
namespace Mine
/-- the program as the walk reads it: the statements that the head keeps -/
noncomputable def vw : Program := view PySem.Challenge.pw_pb0105_01 [1, 2, 3, 4, 5, 6, 7, 8, 9, 10, 12, 13, 14, 15, 16, 17, 18, 20, 21, 22, 24, 25, 27, 28, 29, 30, 31, 32, 33, 34, 35, 36, 37, 38, 39]
noncomputable def lo : List Str := ["GitError", "read_pkts", "PushCommand", "PushRequest"]
theorem said : PySem.Challenge.rw_pb0105_01.wellSaid = true := by
  rw [PySem.W.Fast.te9446332074065402090]
  kernel_rfl
theorem left_of_run {p q : Program} {loose : List Str} {Xt : Shared → Bool} {α : Type} {Yf : Shared → α} {Ya : World → α} {N : Nat} {g0 : Bool} {H₀ : Params → Heap}
    {gs₀ : Array GenState} {d₀ : Drawn} {k₀ : Nat} {m₀ : Nat} {ann : Option Value}
    (open_ : ∀ w : World, (fencedOpening treeTable p w N).map (fun s => (s.heap, s.gens, s.drawn, s.toks)) = some (H₀ w.params, gs₀, d₀, k₀))
    (size : ∀ w : World, ((H₀ w.params).isNs mainGlobals && gs₀.size == 0, (H₀ w.params).objs.size, (H₀ w.params).nsMap mainGlobals "__annotations__") = (true, m₀, ann))
    (run : ∀ (w : World) (os : OsState), (topRun treeTable p w m₀ ann N ⟨H₀ w.params, gs₀, d₀, k₀, os⟩ (topStub p)).map (fun s₁ =>
      (staticsOk (importedModules p.main.body) (H₀ w.params) s₁.heap && namesBound p s₁.heap && gensDone s₁ && laidKept (H₀ w.params) s₁.heap,
        openSeen q loose (importedModules p.main.body) Xt g0 s₁, Yf s₁)) = some (true, openGood q loose, Ya w)) : LeftO p q loose Xt Yf Ya N g0 := fun w => by
  obtain ⟨⟨h, gs, d, k, os⟩, e, e'⟩ := Option.map_eq_some_iff.mp (open_ w)
  obtain ⟨rfl, rfl, rfl, rfl⟩ : h = H₀ w.params ∧ gs = gs₀ ∧ d = d₀ ∧ k = k₀ := by simpa using e'
  obtain ⟨z1, z2, z3⟩ : _ ∧ _ ∧ _ := by simpa only [Prod.mk.injEq] using size w
  obtain ⟨s₁, r, l⟩ := Option.map_eq_some_iff.mp (run w os)
  obtain ⟨l1, l2, l3⟩ : _ ∧ _ ∧ _ := by simpa only [Prod.mk.injEq] using l
  have t : topFrom treeTable p w N ⟨H₀ w.params, gs, d, k, os⟩ = some s₁ := by
    unfold topFrom
    dsimp only
    rw [z1, z2, z3, r]
    show (match staticsOk (importedModules p.main.body) (H₀ w.params) s₁.heap && namesBound p s₁.heap && gensDone s₁ && laidKept (H₀ w.params) s₁.heap with | true => _ | false => _) = _
    rw [l1]
  unfold openEnds
  rw [e]
  show (topFrom treeTable p w N _).map _ = _
  rw [t]
  exact congrArg some (Prod.ext l2 l3)
theorem opens (w : World) : (fencedOpening treeTable PySem.Challenge.pw_pb0105_01 w 4758).map (fun s => (s.heap, s.gens, s.drawn, s.toks)) = some (boot_heap w.params, Array.mk [], boot_drawn, boot_toks) :=
  boot_open (by kernel_rfl) (by decide) (fun s => by kernel_rfl) w
theorem sizes (w : World) : ((boot_heap w.params).isNs mainGlobals && (Array.mk [] : Array GenState).size == 0, (boot_heap w.params).objs.size, (boot_heap w.params).nsMap mainGlobals "__annotations__") = (true, 11, some (.ref 6)) := by kernel_rfl
local macro_rules | `(tactic| o_law) => `(tactic| refine holds_law said fun said => ?_)
local macro_rules | `(tactic| o_head $H:term) => `(tactic| (
  refine holds_open (q := vw) (loose := lo) (Xt := fun s => xlAt vw [] s && recOk (RowW.records (OpenRow.toRowW (OpenLaw.row PySem.Challenge.rw_pb0105_01))) s) (XP := XL vw []) (Yf := Hook.obs $H) (Ya := Hook.val $H) (YP := Hook.says $H) (N := 4758)
    (left_of_run opens sizes fun w os => ?hr) (Hook.of $H) (Hook.keeps $H) (fun s e => xl_of s (Bool.and_eq_true_iff.mp e).1) XL.keeps (by rfl) (by rfl) (by rfl) (fun s e => recFacts_of (Bool.and_eq_true_iff.mp e).2) (by rfl) (by first | assumption | decide +kernel) (by decide +kernel) ⟨rfl, rfl, rfl, rfl, rfl, by decide +kernel⟩ ?hw ?hc
  case hr => (rw [PySem.W.Fast.te14082659384304107361, PySem.W.Fast.te14364793385576792824, PySem.W.Fast.te4187177175401517315]; kernel_rfl)))
open_top hd for PySem.Challenge.rw_pb0105_01
end Mine
namespace Mine
/-- a name bound anew -/
noncomputable def upd (x : PySem.Str) (v : Option PySem.Value) (m : PySem.Str → Option PySem.Value) : PySem.Str → Option PySem.Value := fun y => if y = x then v else m y
theorem room0 {a c L : Nat} (h : a + c < L) : a < L := Nat.lt_of_le_of_lt (Nat.le_add_right a c) h
theorem room1 {a b c L : Nat} (h : a + c < L) (e : Nat.ble b c = true) : a + b < L := Nat.lt_of_le_of_lt (Nat.add_le_add_left (Nat.le_of_ble_eq_true e) a) h
theorem room2 {a x b c L : Nat} (h : a + c < L) (e : Nat.ble (x + b) c = true) : a + x + b < L := by rw [Nat.add_assoc]; exact room1 h e
theorem room3 {a x y b c L : Nat} (h : a + c < L) (e : Nat.ble (x + y + b) c = true) : a + x + y + b < L := by rw [Nat.add_assoc a x y, Nat.add_assoc]; exact room1 h e
theorem room4 {a x y z b c L : Nat} (h : a + c < L) (e : Nat.ble (x + y + z + b) c = true) : a + x + y + z + b < L := by rw [Nat.add_assoc a x y, Nat.add_assoc a (x + y) z, Nat.add_assoc]; exact room1 h e
theorem le_lit {a k K : Nat} (h : a ≤ k) (e : Nat.ble k K = true) : a ≤ K := Nat.le_trans h (Nat.le_of_ble_eq_true e)
theorem lt_lit {a k K : Nat} (h : a ≤ k) (e : Nat.ble (k + 1) K = true) : a < K := Nat.lt_of_le_of_lt h (Nat.le_of_ble_eq_true e)
theorem lit_le {n : Nat} : @OfNat.ofNat Nat n (instOfNatNat n) ≤ @OfNat.ofNat Nat n (instOfNatNat n) := Nat.le_refl _
theorem lit_b {a n : Nat} (h : a ≤ @OfNat.ofNat Nat n (instOfNatNat n)) : a ≤ @OfNat.ofNat Nat n (instOfNatNat n) := h
theorem lit_c {a n : Nat} {q : Prop} (h : a ≤ @OfNat.ofNat Nat n (instOfNatNat n) ∧ q) : a ≤ @OfNat.ofNat Nat n (instOfNatNat n) := h.1
theorem lit_d {a n : Nat} (h : a < @OfNat.ofNat Nat n (instOfNatNat n)) : a ≤ @OfNat.ofNat Nat n (instOfNatNat n) := Nat.le_of_lt h
theorem lit_e {a b n : Nat} (e : a = b) (h : b ≤ @OfNat.ofNat Nat n (instOfNatNat n)) : a ≤ @OfNat.ofNat Nat n (instOfNatNat n) := e ▸ h
theorem sub_le_le {a b k : Nat} (h : a ≤ k) : a - b ≤ k := Nat.le_trans (Nat.sub_le a b) h
theorem and_l {p q : Prop} (h : p ∧ q) : p := h.1
theorem le_of_lt_ {a k : Nat} (h : a < k) : a ≤ k := Nat.le_of_lt h
end Mine
set_option compiler.extract_closed false
theorem words1 : True := by
  k_with "omega" => (first
      | decide
      | (with_reducible exact Mine.room1 (by with_reducible assumption) (by k_dflt exact rfl))
      | (with_reducible exact Mine.room2 (by with_reducible assumption) (by k_dflt exact rfl))
      | (with_reducible exact Mine.room3 (by with_reducible assumption) (by k_dflt exact rfl))
      | (with_reducible exact Mine.room0 (by with_reducible assumption))
      | (focus ((with_reducible first | refine Mine.le_lit (k := ?_) ?_ ?_ | refine Mine.lt_lit (k := ?_) ?_ ?_); rotate_left 1; (· with_reducible repeat' (first | exact Mine.lit_le | exact Mine.lit_b (by assumption) | exact Mine.lit_c (by assumption) | exact Mine.lit_d (by assumption) | refine' Nat.add_le_add ?_ ?_ | refine' Nat.mul_le_mul_left _ ?_ | refine' Mine.sub_le_le ?_)); (· k_dflt exact rfl)))
      | lia
      | omega +splitDisjunctions)
  trivial
local macro_rules | `(tactic| omega) => `(tactic| k_extra "omega")
section
open PySem PySem.W PyProof.Rows
namespace Mine
theorem pr2 {α0 α1 : Type} {P : α0 × α1 → Prop} (h : ∀ a b, P (a, b)) : ∀ x, P x := fun (a, b) => h a b
theorem pr3 {α0 α1 α2 : Type} {P : α0 × α1 × α2 → Prop} (h : ∀ a b c, P (a, b, c)) : ∀ x, P x := fun (a, b, c) => h a b c
theorem pr4 {α0 α1 α2 α3 : Type} {P : α0 × α1 × α2 × α3 → Prop} (h : ∀ a b c d, P (a, b, c, d)) : ∀ x, P x := fun (a, b, c, d) => h a b c d
theorem pr5 {α0 α1 α2 α3 α4 : Type} {P : α0 × α1 × α2 × α3 × α4 → Prop} (h : ∀ a b c d e, P (a, b, c, d, e)) : ∀ x, P x := fun (a, b, c, d, e) => h a b c d e
theorem pr6 {α0 α1 α2 α3 α4 α5 : Type} {P : α0 × α1 × α2 × α3 × α4 × α5 → Prop} (h : ∀ a b c d e f, P (a, b, c, d, e, f)) : ∀ x, P x := fun (a, b, c, d, e, f) => h a b c d e f
theorem pr7 {α0 α1 α2 α3 α4 α5 α6 : Type} {P : α0 × α1 × α2 × α3 × α4 × α5 × α6 → Prop} (h : ∀ a b c d e f g, P (a, b, c, d, e, f, g)) : ∀ x, P x := fun (a, b, c, d, e, f, g) => h a b c d e f g
theorem pr8 {α0 α1 α2 α3 α4 α5 α6 α7 : Type} {P : α0 × α1 × α2 × α3 × α4 × α5 × α6 × α7 → Prop} (h : ∀ a b c d e f g i, P (a, b, c, d, e, f, g, i)) : ∀ x, P x := fun (a, b, c, d, e, f, g, i) => h a b c d e f g i
universe u
theorem pick_ex {α : Type u} (ne : Nonempty α) (P : α → Prop) : ∃ c, P c → ∀ x, P x :=
  Classical.byCases (fun h : ∃ x, ¬ P x => let ⟨x, hx⟩ := h; ⟨x, fun q => absurd q hx⟩) fun h => ne.elim fun c => ⟨c, fun _ x => Classical.byContradiction fun q => h ⟨x, q⟩⟩
noncomputable def pick {α : Type u} (ne : Nonempty α) (P : α → Prop) : α := Classical.choose (pick_ex ne P)
theorem pick_spec {α : Type u} {ne : Nonempty α} {P : α → Prop} (h : P (pick ne P)) (x : α) : P x := Classical.choose_spec (pick_ex ne P) h x
noncomputable def dW : World := ⟨fun _ _ => 0, { strHash := fun _ => 0, shareClass := fun _ => 0, mergeTok := fun t => t, idOf := fun _ => 0, idOfShared := fun _ _ => 0, followText := fun _ => false, idOfImm := fun _ => 0 }⟩
noncomputable def dA : Around := ⟨none, 0, none, none, 0⟩
noncomputable def dS : Shared := ⟨default, #[], {}, 0, {}⟩
end Mine
end
section
open PySem PySem.W PyProof.Rows PySem.Calls
namespace Mine
set_option maxRecDepth 100000

theorem fr_stays {g h : Heap} {L : Addr} {m : Str → Option Value} (F : Fr g L h m) : g.StaysIn h := F.keep

/-- an exception of the text's class BadLine on its way, the old objects kept but for the frames' own dicts -/
noncomputable def ExcAt (l : List Env) (h h' : Heap) (e : Addr) : Prop :=
  ∃ B a0 fl, B.StaysIn h' ∧ B.get? e = none ∧ h'.FunFrames B l ∧ h'.TracedAtW B e (.ref 57) a0 fl ∧ (∀ b o, h.get? b = some o → b ∉ l.filterMap (·.frame) → B.get? b = some o) ∧ h.UpToSlots h'

section
variable {M : Model} {A : Around} {E : Value → Shared → Prop} {s : Shared} {h : Heap} {outer l : List Env} {L e : Addr} {env env' : Env} {Q : Unit → Shared → Prop}

theorem noteFrame_congr (x : Value) (h : env.frame = env'.frame) : noteFrame x env = noteFrame x env' := by
  unfold noteFrame PySem.frameOf
  rw [h]

theorem note_on {base : Heap} {cls a0 fl : Value} (hfr : A.frames = some (env :: outer)) (hl : s.heap.FunFrames base (env :: outer)) (hf : env.frame = some L) (ht : s.heap.TracedAtW base e cls a0 fl) (hkb : base.StaysIn s.heap) (hen : base.get? e = none)
    (hne : (fl == rawInt L) = false)
    (h : ∀ h', Heap.NotedW base (env :: outer) e cls a0 (rawInt L) s.heap h' → Q () { s with heap := h' }) : wpAny M A (noteFrame (.ref e) env) Q E s := by
  obtain ⟨oe, vs, T, oT, ts, he, ⟨hcls, h0⟩, hd, h1, hnT, hTe, hT, hdT, h3⟩ := ht
  subst hcls
  unfold noteFrame
  simp only [hf]
  refine wpAny_bind (wpAny_field he hd h1 ?_)
  rw [if_pos (show (Value.ref T != Value.none) = true from by simp)]
  refine wpAny_bind (wpAny_field hT hdT h3 ?_)
  rw [if_neg (by rw [hne]; decide)]
  refine wpAny_bind (wpAny_setField hT hdT (Array.getElem?_eq_some_iff.mp h3).1 ?_)
  have other : ∀ b, b ≠ T → (s.heap.update T (Obj.mapFields (·.setIfInBounds 3 Value.none))).get? b = s.heap.get? b := fun b hb => Heap.get?_update_other _ _ (Ne.symm hb)
  have noRecord : ∀ b o, s.heap.get? b = some o → (∀ vs, o.data ≠ .fields vs) → b ≠ T := fun b o hb hnf q => by
    rw [q, hT] at hb; injection hb with hb; subst hb; exact hnf ts hdT
  refine wpAny_entryW hfr (hl.of_keeps fun b o hb hnf => ⟨o, (other b (noRecord b o hb hnf)).trans hb, rfl⟩) hf ((other e (Ne.symm hTe)).trans he)
    (fun b o hbo => (other b fun q => by rw [q, hnT] at hbo; cases hbo).trans (hkb b o hbo)) hen hd (Array.getElem?_eq_some_iff.mp h1).1 h0
    fun h' ⟨x1, x2, x3, x4⟩ => h h' ⟨x1, x2, x3, fun b o hb hnf => x4 b o ((other b (noRecord b o hb hnf)).trans hb) hnf⟩

theorem ExcAt.note (hfr : A.frames = some (env :: outer)) (hf : env.frame = some L) (R : ExcAt (env :: outer) h s.heap e) (hQ : ∀ h', ExcAt (env :: outer) h h' e → Q () { s with heap := h' }) :
    wpAny M A (noteFrame (.ref e) env) Q E s := by
  obtain ⟨B, a0, fl, f1, f2, f3, f4, f5, f6⟩ := id R
  cases hq : (fl == rawInt L) with
  | true =>
    have : fl = rawInt L := by simpa using hq
    subst this
    exact wpAny_noteFrame_againW hf f4 (hQ _ R)
  | false =>
    refine note_on hfr f3 hf f4 f1 f2 hq fun h' hN => ?_
    obtain ⟨k1, k2, k3, k4⟩ := hN
    exact hQ h' ⟨B, a0, rawInt L, k1, f2, k2, k3, f5, f6.trans k4⟩

theorem ExcAt.note' (hfr : A.frames = some (env :: outer)) (hf : env.frame = some L) (hc : env'.frame = some L) (R : ExcAt (env :: outer) h s.heap e) (hQ : ∀ h', ExcAt (env :: outer) h h' e → Q () { s with heap := h' }) :
    wpAny M A (noteFrame (.ref e) env') Q E s := by
  rw [noteFrame_congr (env' := env) _ (hc.trans hf.symm)]
  exact R.note hfr hf hQ

theorem setFlight_any {base : Heap} {cls a0 fl : Value} {x : Option Addr} (hkb : base.StaysIn s.heap) (hl : s.heap.FunFrames base l) (ht : s.heap.TracedAtW base e cls a0 fl)
    (h : ∀ h', base.StaysIn h' → h'.FunFrames base l → h'.TracedAtW base e cls a0 (x.elim .none fun f => rawInt f) → (∀ b o, s.heap.get? b = some o → (∀ vs, o.data ≠ .fields vs) → h'.get? b = some o) → Q () { s with heap := h' }) :
    wpAny M A (setFlight (.ref e) x) Q E s := by
  obtain ⟨oe, vs, T, oT, ts, he, hcls, hd, h1, hnT, hTe, hT, hdT, h3⟩ := ht
  have hsz3 : 3 < ts.size := (Array.getElem?_eq_some_iff.mp h3).1
  have other : ∀ b, b ≠ T → (s.heap.update T (Obj.mapFields (·.setIfInBounds 3 (x.elim Value.none fun f => rawInt f)))).get? b = s.heap.get? b :=
    fun b hb => Heap.get?_update_other _ _ (Ne.symm hb)
  have noRecord : ∀ b o, s.heap.get? b = some o → (∀ vs, o.data ≠ .fields vs) → b ≠ T := fun b o hb hnf q => by
    rw [q, hT] at hb; injection hb with hb; subst hb; exact hnf ts hdT
  unfold setFlight
  refine wpAny_bind (wpAny_field he hd h1 ?_)
  rw [if_pos (show (Value.ref T != Value.none) = true from by simp)]
  refine wpAny_setField hT hdT hsz3 (h _ (fun b o hbo => (other b fun q => by rw [q, hnT] at hbo; cases hbo).trans (hkb b o hbo))
    (hl.of_keeps fun b o hb hnf => ⟨o, (other b (noRecord b o hb hnf)).trans hb, rfl⟩) ?_ fun b o hb hnf => (other b (noRecord b o hb hnf)).trans hb)
  exact ⟨oe, vs, T, _, _, (other e (Ne.symm hTe)).trans he, hcls, hd, h1, hnT, hTe, Heap.get?_update_self _ hT (Obj.isFreed_of_fields (Obj.data_mapFields hdT _)), Obj.data_mapFields hdT _, by simp [hsz3]⟩

theorem ExcAt.flight {x : Option Addr} (R : ExcAt l h s.heap e) (hQ : ∀ h', ExcAt l h h' e → Q () { s with heap := h' }) : wpAny M A (setFlight (.ref e) x) Q E s := by
  obtain ⟨B, a0, fl, f1, f2, f3, f4, f5, f6⟩ := R
  exact setFlight_any f1 f3 f4 fun h' k1 k2 k3 k4 => hQ h' ⟨B, a0, _, k1, f2, k2, k3, f5, f6.trans fun b o hb hn => ⟨o.slots, k4 b o hb hn⟩⟩

/-- the last mark taken off: what the try statement and the leaving of a frame see -/
theorem ExcAt.land (R : ExcAt l h s.heap e) (hQ : ∀ h' B a0, Heap.FlyingW B l e (.ref 57) a0 h' → (∀ b o, h.get? b = some o → b ∉ l.filterMap (·.frame) → B.get? b = some o) → h.UpToSlots h' → Q () { s with heap := h' }) : wpAny M A (setFlight (.ref e) none) Q E s := by
  obtain ⟨B, a0, fl, f1, f2, f3, f4, f5, f6⟩ := R
  exact wpAny_setFlight_noneW f1 f3 f4 fun h' k1 k2 k3 k4 => hQ h' B a0 ⟨k1, f2, k2, k3⟩ f5 (f6.trans fun b o hb hn => ⟨o.slots, k4 b o hb hn⟩)

theorem ExcAt.fieldOf {Q : Value → Shared → Prop} (R : ExcAt l h s.heap e) (hQ : ∀ T, Q (.ref T) s) : wpAny M A (field (.ref e) 1) Q E s := by
  obtain ⟨B, a0, fl, f1, f2, f3, ⟨oe, vs, T, oT, ts, he, hcls, hd, h1, _⟩, f5, f6⟩ := R
  exact wpAny_field he hd h1 (hQ T)
end

section
variable {M : Model} {A : Around} {E : Value → Shared → Prop} {s' : Shared} {base g h : Heap} {outer : List Env} {L a e : Addr} {m : Str → Option Value} {name : Str} {scope : Scope} {cd : Value} {Q : Unit → Shared → Prop}

theorem frames_below (_K : Below A base outer g) (F : Fr g L h m) : ∀ {b : Addr} {o : Obj}, g.get? b = some o → b ∉ outer.filterMap (·.frame) → b ∉ (envOf name scope L a cd :: outer).filterMap (·.frame) := by
  intro b o hb hn hm
  rcases List.mem_cons.mp hm with q | hm
  · exact absurd (Nat.lt_of_lt_of_le (Heap.lt_size hb) F.above) (by have q' : b = L := q; rw [q']; exact Nat.lt_irrefl _)
  · exact hn hm

/-- a fresh exception leaves the frame in which it was raised -/
theorem leave_fresh {oe : Obj} {vs : Array Value} {a0 : Value} (K : Below A base outer g) (F : Fr g L h m) (hkeep : ∀ b o, h.get? b = some o → s'.heap.get? b = some o) (hnew : h.get? e = none)
    (he : s'.heap.get? e = some oe) (hc : oe.cls = .ref 57) (hd : oe.data = .fields vs) (h0 : vs[0]? = some a0) (h1 : vs[1]? = some .none)
    (hQ : ∀ h', ExcAt outer g h' e → Q () { s' with heap := h' }) (hk : scope.kind = .function := by rfl) :
    wpAny M (A.deeper (envOf name scope L a cd)) (leaving (envOf name scope L a cd) (.ref e)) Q E s' := by
  have K' := K.push (name := name) (a := a) (cd := cd) F hk
  have hin : ∀ env ∈ (envOf name scope L a cd :: outer), ∀ b, env.frame = some b → b ∈ (envOf name scope L a cd :: outer).filterMap (·.frame) := fun env he b hb => List.mem_filterMap.mpr ⟨env, he, hb⟩
  have hen : (hideAll h ((envOf name scope L a cd :: outer).filterMap (·.frame))).get? e = none := by
    cases q : (hideAll h ((envOf name scope L a cd :: outer).filterMap (·.frame))).get? e with
    | none => rfl
    | some o => have := of_hideAll _ q; rw [hnew] at this; cases this
  refine wpAny_leaving_firstW (a0 := a0) K'.stack ((funFrames_hide K'.frames hin).of_keeps fun b o hb _ => ⟨o, hkeep b o hb, rfl⟩) rfl he (fun b o hb => hkeep b o (of_hideAll _ hb)) hen hd h1 h0 fun h' hL => ?_
  obtain ⟨k1, ⟨_, _, k2⟩, k3, k4⟩ := hL
  refine hQ h' ⟨_, a0, .none, k1, hen, k2, by rw [← hc]; exact k3, fun b o hb hn => ?_, ?_⟩
  · exact hideAll_get _ (F.keep b o hb) (frames_below (name := name) (scope := scope) (a := a) (cd := cd) K F hb hn)
  · exact ((Heap.UpToSlots.of_keeps F.keep).trans (Heap.UpToSlots.of_keeps hkeep)).trans k4

theorem leave_bad {d t : Addr} (he : s'.heap.get? e = some { cls := .ref 57, dict := some d, data := .fields #[.ref t, .none, .none, .none, .bool false, .none] })
    (hkeep : ∀ b o, h.get? b = some o → s'.heap.get? b = some o) (hnew : h.get? e = none) (K : Below A base outer g) (F : Fr g L h m)
    (hQ : ∀ h', ExcAt outer g h' e → Q () { s' with heap := h' }) (hk : scope.kind = .function := by rfl) :
    wpAny M (A.deeper (envOf name scope L a cd)) (leaving (envOf name scope L a cd) (.ref e)) Q E s' := leave_fresh K F hkeep hnew he rfl rfl rfl rfl hQ hk

/-- an exception out of a call leaves this frame too -/
theorem leave_exc (R : ExcAt (envOf name scope L a cd :: outer) h s'.heap e) (K : Below A base outer g) (F : Fr g L h m)
    (hQ : ∀ h', ExcAt outer g h' e → Q () { s' with heap := h' }) :
    wpAny M (A.deeper (envOf name scope L a cd)) (leaving (envOf name scope L a cd) (.ref e)) Q E s' := by
  unfold leaving
  refine wpAny_bind (R.note (Around.frames_deeper K.stack) rfl fun h₁ R₁ => ?_)
  refine ExcAt.land (s := { s' with heap := h₁ }) R₁ fun h' B a0 hfl hB hsm => hQ h' ?_
  obtain ⟨k1, k2, ⟨_, _, k3⟩, k4⟩ := hfl
  refine ⟨B, a0, .none, k1, k2, k3, k4, fun b o hb hn => ?_, (Heap.UpToSlots.of_keeps F.keep).trans hsm⟩
  exact hB b o (F.keep b o hb) (frames_below (name := name) (scope := scope) (a := a) (cd := cd) K F hb hn)
end
end Mine
end
section
open PySem PySem.W PyProof.Rows PySem.Calls
namespace Mine
set_option maxRecDepth 100000

/-- the objects src stand in h -/
noncomputable def Stand (src : List (Addr × Obj)) (h : Heap) : Prop := ∀ p ∈ src, h.get? p.1 = some p.2
theorem stand_nil {h : Heap} : Stand [] h := List.forall_mem_nil _
theorem stand_base {g h : Heap} {L : Addr} {m : Str → Option Value} {src : List (Addr × Obj)} (F : Fr g L h m) (x : Stand src g) : Stand src h := fun p hp => F.keep _ _ (x p hp)
theorem stand_news {g h : Heap} {L : Addr} {src news : List (Addr × Obj)} (N : News g L h news) (x : ∀ p ∈ src, p ∈ news) : Stand src h := fun p hp => (N p (x p hp)).1

/-- the items of an iterable, as it is walked over (src: the objects that must stay meanwhile) -/
structure Source (prog : Program) (w : World) (A : Around) {α : Type} (xs : List α) (V : α → Value → Prop) (src : List (Addr × Obj)) (I : Addr) (fp : List Addr) (St : Nat → Heap → Prop) : Prop where
  walks : Walks prog w A I fp [I] xs.length (fun i v => ∃ a, xs[i]? = some a ∧ V a v) St
  it : ∀ i h, St i h → ∃ o, h.get? I = some o
  stay : ∀ i h h' o, St i h → h.get? I = some o → h'.get? I = some o → Stand src h' → St i h'

/-- the value xv is an iterable with the items xs -/
noncomputable def IterOf (prog : Program) (w : World) (A : Around) (xv : Value) (h : Heap) {α : Type} (xs : List α) (V : α → Value → Prop) (src : List (Addr × Obj)) : Prop :=
  Stand src h ∧ (∀ p ∈ src, ∀ es n, p.2.data ≠ .dict es n) ∧ ∀ (s : Shared) (Q : Value → Shared → Prop) (E : Value → Shared → Prop), s.heap = h →
    (∀ o fp St, Source prog w A xs V src s.heap.objs.size fp St → o.isFreed = false → (∀ es n, o.data ≠ .dict es n) → (∀ b ∈ fp, b < s.heap.objs.size + 1) → St 0 (s.heap.push o) → Q (.ref s.heap.objs.size) { s with heap := s.heap.push o }) →
    wpAny (model prog w) A (pyIter xv) Q E s

section
variable {prog : Program} {w : World} {A : Around} {h : Heap}
theorem iter_bytes {b : Array UInt8} {t : Tok} (hh : A.handled = none) : IterOf prog w A (.bytes b t) h b.toList (fun c v => ∃ u, v = .int (c.toNat : Int) u) [] := by
  refine ⟨stand_nil, List.forall_mem_nil _, fun s Q E hs hQ => ?_⟩
  refine KBw.pyIter_bytes (hQ _ [s.heap.objs.size] (fun i h => KBw.IsBytesIter h s.heap.objs.size b t i) ?_ rfl (fun _ _ e => by cases e) (fun b hb => by rw [List.mem_singleton.mp hb]; exact Nat.lt_succ_self _) ⟨_, Heap.get?_push_size _ rfl, rfl, rfl⟩)
  have W := KBw.walks (prog := prog) (w := w) hh s.heap.objs.size b t
  refine ⟨⟨W.sub, W.frame, fun i s' Q' E' hi st hQ' => ?_, fun s' Q' E' st hQ' => ?_, W.self⟩, fun i h st => ?_, fun i h h' o st e e' _ => ?_⟩
  · refine W.item i s' Q' E' (by simpa using hi) st fun v h' tk hP => hQ' v h' tk ?_
    obtain ⟨n, u, hn, rfl⟩ := hP
    exact ⟨n, by simpa using hn, u, rfl⟩
  · exact W.done s' Q' E' (by simpa using st) hQ'
  · obtain ⟨o, ho, _⟩ := st; exact ⟨o, ho⟩
  · obtain ⟨o', ho, r⟩ := st; rw [e] at ho; cases ho; exact ⟨o, e', r⟩

theorem iter_str {x : Str} {t : Tok} (hh : A.handled = none) : IterOf prog w A (.str x t) h x.cps.toList (fun c v => ∃ u, v = .str ⟨#[c]⟩ u) [] := by
  refine ⟨stand_nil, List.forall_mem_nil _, fun s Q E hs hQ => ?_⟩
  have key : ∀ (nm : String) (W : Walks prog w A s.heap.objs.size [s.heap.objs.size] [s.heap.objs.size] x.cps.size (SignAt x) (fun i h => h.IsStrIter s.heap.objs.size nm x t i)),
      Source prog w A x.cps.toList (fun c v => ∃ u, v = .str ⟨#[c]⟩ u) [] s.heap.objs.size [s.heap.objs.size] (fun i h => h.IsStrIter s.heap.objs.size nm x t i) := fun nm W => by
    refine ⟨⟨W.sub, W.frame, fun i s' Q' E' hi st hQ' => ?_, fun s' Q' E' st hQ' => ?_, W.self⟩, fun i h st => ?_, fun i h h' o st e e' _ => ?_⟩
    · refine W.item i s' Q' E' (by simpa using hi) st fun v h' tk hP => hQ' v h' tk ?_
      obtain ⟨c, u, hn, rfl⟩ := hP
      exact ⟨c, by simpa using hn, u, rfl⟩
    · exact W.done s' Q' E' (by simpa using st) hQ'
    · obtain ⟨o, ho, _⟩ := st; exact ⟨o, ho⟩
    · obtain ⟨o', ho, r⟩ := st; rw [e] at ho; cases ho; exact ⟨o, e', r⟩
  cases ha : x.cps.all (· < 128)
  · exact wpAny_pyIter_wide ha (hQ _ _ _ (key _ (Walks.strWide hh _ x t)) rfl (fun _ _ e => by cases e) (fun b hb => by rw [List.mem_singleton.mp hb]; exact Nat.lt_succ_self _) ⟨_, Heap.get?_push_size _ rfl, rfl, rfl⟩)
  · exact wpAny_pyIter_ascii ha (hQ _ _ _ (key _ (Walks.strAscii hh _ x t)) rfl (fun _ _ e => by cases e) (fun b hb => by rw [List.mem_singleton.mp hb]; exact Nat.lt_succ_self _) ⟨_, Heap.get?_push_size _ rfl, rfl, rfl⟩)

theorem iter_list {l : Addr} {items : Array Value} {ol : Obj} {n : Nat} (hh : A.handled = none) (ho : h.get? l = some ol) (hc : ol.cls = .type "list") (hd : ol.data = .seq items n) : IterOf prog w A (.ref l) h items.toList (fun a v => a = v) [(l, ol)] := by
  have up : ∀ h' : Heap, Stand [(l, ol)] h' → h'.IsList l items := fun h' x => ⟨ol, x _ (.head _), hc, n, hd⟩
  refine ⟨fun p hp => ?_, fun p hp es k q => ?_, fun s Q E hs hQ => ?_⟩
  · rw [List.mem_singleton.mp hp]; exact ho
  · rw [List.mem_singleton.mp hp] at q
    have q' : ol.data = .dict es k := q
    rw [hd] at q'; cases q'
  subst hs
  have hl : s.heap.IsList l items := ⟨ol, ho, hc, n, hd⟩
  have hlt : l < s.heap.objs.size := by obtain ⟨_, e, _⟩ := hl; exact Heap.lt_size e
  have W := Walks.list (prog := prog) (w := w) hh s.heap.objs.size l (Nat.ne_of_lt hlt) items
  refine wpAny_pyIter_list hl (hQ _ _ _ ⟨⟨W.sub, W.frame, fun i s' Q' E' hi st hQ' => ?_, fun s' Q' E' st hQ' => ?_, W.self⟩, fun i h st => ?_, fun i h h' o st e e' hS => ?_⟩ rfl (fun _ _ e => by cases e) (fun b hb => ?_) ⟨⟨_, Heap.get?_push_size _ rfl, rfl, rfl⟩, hl.push _⟩)
  · refine W.item i s' Q' E' (by simpa using hi) st fun v h' tk hP => hQ' v h' tk ⟨v, ?_, rfl⟩
    simpa using hP
  · exact W.done s' Q' E' (by simpa using st) hQ'
  · obtain ⟨o, ho, _⟩ := st.1; exact ⟨o, ho⟩
  · obtain ⟨o', ho, r⟩ := st.1; rw [e] at ho; cases ho; exact ⟨⟨o, e', r⟩, up _ hS⟩
  · rcases List.mem_cons.mp hb with rfl | hb
    · exact Nat.lt_succ_self _
    · rw [List.mem_singleton.mp hb]; exact Nat.lt_succ_of_lt hlt

theorem iter_tuple {l : Addr} {items : Array Value} {ol : Obj} {n : Nat} (hh : A.handled = none) (ho : h.get? l = some ol) (hc : ol.cls = .type "tuple") (hd : ol.data = .seq items n) : IterOf prog w A (.ref l) h items.toList (fun a v => a = v) [(l, ol)] := by
  have up : ∀ h' : Heap, Stand [(l, ol)] h' → h'.IsTuple l items := fun h' x => ⟨ol, x _ (.head _), hc, n, hd⟩
  refine ⟨fun p hp => ?_, fun p hp es k q => ?_, fun s Q E hs hQ => ?_⟩
  · rw [List.mem_singleton.mp hp]; exact ho
  · rw [List.mem_singleton.mp hp] at q
    have q' : ol.data = .dict es k := q
    rw [hd] at q'; cases q'
  subst hs
  have hl : s.heap.IsTuple l items := ⟨ol, ho, hc, n, hd⟩
  have hlt : l < s.heap.objs.size := by obtain ⟨_, e, _⟩ := hl; exact Heap.lt_size e
  have W := Walks.tuple (prog := prog) (w := w) hh s.heap.objs.size l (Nat.ne_of_lt hlt) items
  refine wpAny_pyIter_tuple hl (hQ _ _ _ ⟨⟨W.sub, W.frame, fun i s' Q' E' hi st hQ' => ?_, fun s' Q' E' st hQ' => ?_, W.self⟩, fun i h st => ?_, fun i h h' o st e e' hS => ?_⟩ rfl (fun _ _ e => by cases e) (fun b hb => ?_) ⟨⟨_, Heap.get?_push_size _ rfl, rfl, rfl⟩, hl.push _⟩)
  · refine W.item i s' Q' E' (by simpa using hi) st fun v h' tk hP => hQ' v h' tk ⟨v, ?_, rfl⟩
    simpa using hP
  · exact W.done s' Q' E' (by simpa using st) hQ'
  · obtain ⟨o, ho, _⟩ := st.1; exact ⟨o, ho⟩
  · obtain ⟨o', ho, r⟩ := st.1; rw [e] at ho; cases ho; exact ⟨⟨o, e', r⟩, up _ hS⟩
  · rcases List.mem_cons.mp hb with rfl | hb
    · exact Nat.lt_succ_self _
    · rw [List.mem_singleton.mp hb]; exact Nat.lt_succ_of_lt hlt

theorem iter_range {r : Addr} {a b : Int} {t u v : Tok} {n : Nat} (hh : A.handled = none) (hr : IsRange h r a b 1 t u v) (hsm : Builtin.Range.small a b 1 = true) (hn : Builtin.Range.rangeSize a b 1 = (n : Int)) :
    IterOf prog w A (.ref r) h (List.range n) (fun k v => ∃ u, v = .int (a + (k : Int)) u) [] := by
  refine ⟨stand_nil, List.forall_mem_nil _, fun s Q E hs hQ => ?_⟩
  subst hs
  have W := LCg.range_walks (prog := prog) (w := w) (I := s.heap.objs.size) hh a n
  refine wpAny_pyIter_range hr hsm (hQ _ _ _ ⟨⟨W.sub, W.frame, fun i s' Q' E' hi st hQ' => ?_, fun s' Q' E' st hQ' => ?_, W.self⟩, fun i h st => ⟨_, st⟩, fun i h h' o st e e' hS => ?_⟩ rfl (fun _ _ e => by cases e) (fun b hb => ?_) (by show IsRangeIter _ _ _ _ _; rw [hn]; simpa using Heap.get?_push_size _ rfl))
  · have hi' : i < n := by simpa using hi
    refine W.item i s' Q' E' hi' st fun v h' tk hP => hQ' v h' tk ⟨i, ?_, hP⟩
    simp [hi']
  · exact W.done s' Q' E' (by simpa using st) hQ'
  · have st' : h.get? s.heap.objs.size = some _ := st
    show h'.get? _ = some _
    rw [e', ← e]; exact st'
  · rw [List.mem_singleton.mp hb]; exact Nat.lt_succ_self _
end
end Mine
end
section
open PySem PySem.W PyProof.Rows PySem.Calls
namespace Mine
set_option maxRecDepth 100000

/-- E takes every exception of BadLine that comes out of this frame's own run -/
noncomputable def EOk (l : List Env) (h₀ : Heap) (L : Addr) (s : Shared) (E : Value → Shared → Prop) : Prop :=
  ∀ ea hE mE h' tk, Fr h₀ L hE mE → ExcAt l hE h' ea → E (.ref ea) { s with heap := h', toks := tk }

/-- the very exceptions meant by EOk -/
noncomputable def EIs (exc : Prop) (l : List Env) (h₀ : Heap) (L : Addr) (s : Shared) (e : Value) (s' : Shared) : Prop :=
  exc ∧ ∃ ea hE mE h' tk, e = .ref ea ∧ s' = { s with heap := h', toks := tk } ∧ Fr h₀ L hE mE ∧ ExcAt l hE h' ea
theorem EIs.ok {exc : Prop} {l : List Env} {h₀ : Heap} {L : Addr} {s : Shared} (x : exc) : EOk l h₀ L s (EIs exc l h₀ L s) := fun ea hE mE h' tk F R => ⟨x, ea, hE, mE, h', tk, rfl, rfl, F, R⟩
theorem EIs.to {exc : Prop} {l : List Env} {h₀ : Heap} {L : Addr} {s : Shared} {E : Value → Shared → Prop} (hE : exc → EOk l h₀ L s E) : ∀ e s', EIs exc l h₀ L s e s' → E e s' := by
  rintro e s' ⟨x, ea, hE', mE, h', tk, rfl, rfl, F, R⟩
  exact hE x ea hE' mE h' tk F R

section
variable {M : Model} {A : Around} {E : Value → Shared → Prop} {s : Shared} {h₀ : Heap} {L : Addr} {env env' : Env} {outer : List Env} {exc : Prop}
theorem EIs.noted {R : Value → Shared → Prop} (hfr : A.frames = some (env :: outer)) (hf : env.frame = some L) (hc : env'.frame = some L)
    (hR : ∀ e s', EIs exc (env :: outer) h₀ L s e s' → R e s') : ∀ e s', EIs exc (env :: outer) h₀ L s e s' → notedBy M A env' R e s' := by
  rintro e s' ⟨x, ea, hE', mE, h', tk, rfl, rfl, F, X⟩
  exact ExcAt.note' (s := { s with heap := h', toks := tk }) hfr hf hc X fun h₁ X₁ => hR _ _ ⟨x, ea, hE', mE, h₁, tk, rfl, rfl, F, X₁⟩
theorem EIs.cameBack {R : Value → Shared → Prop} (hR : ∀ e s', EIs exc (env :: outer) h₀ L s e s' → R e s') : ∀ e s', EIs exc (env :: outer) h₀ L s e s' → cameBackBy M A env' R e s' := by
  rintro e s' ⟨x, ea, hE', mE, h', tk, rfl, rfl, F, X⟩
  refine wpAny_bind (X.fieldOf (s := { s with heap := h', toks := tk }) fun T => ?_)
  rw [if_neg (show ¬ ((Value.ref T == Value.none) = true) from by simp)]
  exact ExcAt.flight (s := { s with heap := h', toks := tk }) X fun h₁ X₁ => hR _ _ ⟨x, ea, hE', mE, h₁, tk, rfl, rfl, F, X₁⟩
end

section
variable {prog : Program} {w : World} {A : Around} {E : Value → Shared → Prop} {s : Shared} {h₀ : Heap} {env : Env} {outer : List Env} {exc : Prop} {x : Str} {body : List Stmt} {Q : Flow → Shared → Prop}

/-- one turn of a loop over the iterator I -/
noncomputable def Turn (prog : Program) (w : World) (A : Around) (h₀ : Heap) (env : Env) (outer : List Env) (body : List Stmt) (Q : Flow → Shared → Prop) (exc : Prop) (s₁ : Shared) (src : List (Addr × Obj)) (Jn : (Str → Option Value) → List (Addr × Obj) → Prop)
    (m : Str → Option Value) (news : List (Addr × Obj)) (h : Heap) (tk : Nat) : Prop :=
  ∀ (I : Addr) (oI : Obj) (Q' : Flow → Shared → Prop) (E' : Value → Shared → Prop), Fr h₀ env.locals h m → News h₀ env.locals h ((I, oI) :: news) → (∀ p ∈ news, p.1 ≠ I) →
    (∀ f m' news' h' tk', (f = .next ∨ f = .cont) → Fr h₀ env.locals h' m' → News h₀ env.locals h' ((I, oI) :: news') → (∀ p ∈ news', p.1 ≠ I) → Stand src h' → Jn m' news' → Q' f { s₁ with heap := h', toks := tk' }) →
    (∀ s', Q .next s' → Q' .brk s') → (∀ r s', Q (.ret r) s' → Q' (.ret r) s') → (exc → EOk (env :: outer) h₀ env.locals s₁ E') →
    wpAny (model prog w) A (execs body env) Q' E' { s₁ with heap := h, toks := tk }

/-- a for over xv: by what holds of the names and the ledger behind i turns -/
noncomputable def ForGo (prog : Program) (w : World) (A : Around) (h₀ : Heap) (env : Env) (outer : List Env) (x : Str) (body : List Stmt) (Q : Flow → Shared → Prop) (E : Value → Shared → Prop) (exc : Prop) (xv : Value) (s₁ : Shared) : Prop :=
  ∃ (α : Type) (xs : List α) (V : α → Value → Prop) (src : List (Addr × Obj)) (m : Str → Option Value) (news : List (Addr × Obj)) (J : Nat → (Str → Option Value) → List (Addr × Obj) → Prop),
    IterOf prog w A xv s₁.heap xs V src ∧ Fr h₀ env.locals s₁.heap m ∧ News h₀ env.locals s₁.heap news ∧ J 0 m news ∧
    (∀ i a v m₁ news₁ h tk, xs[i]? = some a → V a v → J i m₁ news₁ → Stand src h → Turn prog w A h₀ env outer body Q exc s₁ src (J (i + 1)) (upd x (some v) m₁) news₁ h tk) ∧
    (∀ m' news' h' tk', J xs.length m' news' → Stand src h' → Fr h₀ env.locals h' m' → News h₀ env.locals h' news' → Q .next { s₁ with heap := h', toks := tk' }) ∧
    (exc → EOk (env :: outer) h₀ env.locals s₁ E)

end
section
noncomputable def for_rule_S : Prop := (∀ (prog : Program) (w : World) (A : Around) (E : Value → Shared → Prop) (s : Shared) (h₀ : Heap) (env : Env) (outer : List Env) (exc : Prop) (x : Str) (body : List Stmt) (Q : Flow → Shared → Prop) (px : Pos) (pos : Pos) (iter : Expr) (m₀ : Str → Option Value) (_F₀ : Fr h₀ env.locals s.heap m₀) (hfr : A.frames = some (env :: outer)) (hf : env.frame = some env.locals) (hx : env.kindOf x = some .local) (hp : (env.scope.kind == .class || (env.scope.kind == .module && env.locals != env.globals)) = false) (h : wpAny (model prog w) A (eval iter env) (ForGo prog w A h₀ env outer x body Q E exc) E s) (hs : ∀ x, foldedSetIterable iter env x = pure x), wpAny (model prog w) A (exec (.For (.Name x px) iter body [] pos) env) Q E s)
noncomputable def for_rule_sb1 : { pQ : (Program) → (World) → (Around) → (Value → Shared → Prop) → (Heap) → (Env) → (List Env) → (Prop) → (Str) → (List Stmt) → (Flow → Shared → Prop) → (Pos) → (Pos) → (Expr) → (Shared) → (Value) → Prop // (∀ (prog : Program) (w : World) (A : Around) (E : Value → Shared → Prop) (h₀ : Heap) (env : Env) (outer : List Env) (exc : Prop) (x : Str) (body : List Stmt) (Q : Flow → Shared → Prop) (px : Pos) (pos : Pos) (iter : Expr) (s₁ : Shared) (xv : Value), pQ prog w A E h₀ env outer exc x body Q px pos iter s₁ xv) → for_rule_S } := ⟨_, by
  intro hP_e0
  intro prog w A E s h₀ env outer exc x body Q px pos iter m₀ _F₀ hfr hf hx hp h hs
  refine wpAny_For (wpAny_mono h (fun xv s₁ h₁ => ?_) fun _ _ e => e) hs
  revert hfr hf hx hp h₁; exact hP_e0 prog w A E h₀ env outer exc x body Q px pos iter s₁ xv⟩
namespace for_rule_e0
noncomputable def c0 : (Program) × (World) × (Around) × (Value → Shared → Prop) × (Heap) × (Env) × (List Env) × (Prop) × (Str) × (List Stmt) × (Flow → Shared → Prop) × (Pos) × (Pos) × (Expr) × (Shared) × (Value) × Unit := pick ⟨⟨default, dW, dA, default, default, default, default, default, default, default, default, default, default, default, dS, default, ()⟩⟩ fun q => for_rule_sb1.1 q.1 q.2.1 q.2.2.1 q.2.2.2.1 q.2.2.2.2.1 q.2.2.2.2.2.1 q.2.2.2.2.2.2.1 q.2.2.2.2.2.2.2.1 q.2.2.2.2.2.2.2.2.1 q.2.2.2.2.2.2.2.2.2.1 q.2.2.2.2.2.2.2.2.2.2.1 q.2.2.2.2.2.2.2.2.2.2.2.1 q.2.2.2.2.2.2.2.2.2.2.2.2.1 q.2.2.2.2.2.2.2.2.2.2.2.2.2.1 q.2.2.2.2.2.2.2.2.2.2.2.2.2.2.1 q.2.2.2.2.2.2.2.2.2.2.2.2.2.2.2.1
@[irreducible] noncomputable def prog : Program := c0.1
@[irreducible] noncomputable def w : World := c0.2.1
@[irreducible] noncomputable def A : Around := c0.2.2.1
@[irreducible] noncomputable def E : Value → Shared → Prop := c0.2.2.2.1
@[irreducible] noncomputable def h₀ : Heap := c0.2.2.2.2.1
@[irreducible] noncomputable def env : Env := c0.2.2.2.2.2.1
@[irreducible] noncomputable def outer : List Env := c0.2.2.2.2.2.2.1
@[irreducible] noncomputable def exc : Prop := c0.2.2.2.2.2.2.2.1
@[irreducible] noncomputable def x : Str := c0.2.2.2.2.2.2.2.2.1
@[irreducible] noncomputable def body : List Stmt := c0.2.2.2.2.2.2.2.2.2.1
@[irreducible] noncomputable def Q : Flow → Shared → Prop := c0.2.2.2.2.2.2.2.2.2.2.1
@[irreducible] noncomputable def px : Pos := c0.2.2.2.2.2.2.2.2.2.2.2.1
@[irreducible] noncomputable def pos : Pos := c0.2.2.2.2.2.2.2.2.2.2.2.2.1
@[irreducible] noncomputable def iter : Expr := c0.2.2.2.2.2.2.2.2.2.2.2.2.2.1
@[irreducible] noncomputable def s₁ : Shared := c0.2.2.2.2.2.2.2.2.2.2.2.2.2.2.1
@[irreducible] noncomputable def xv : Value := c0.2.2.2.2.2.2.2.2.2.2.2.2.2.2.2.1
noncomputable def for_rule_sb2 : { pQ : (α : Type) → (List α) → (α → Value → Prop) → (List (Addr × Obj)) → (Str → Option Value) → (List (Addr × Obj)) → (Nat → (Str → Option Value) → List (Addr × Obj) → Prop) → (Obj) → (List Addr) → (Nat → Heap → Prop) → (Addr) → Prop // (∀ (α : Type) (xs : List α) (V : α → Value → Prop) (src : List (Addr × Obj)) (m : Str → Option Value) (news : List (Addr × Obj)) (J : Nat → (Str → Option Value) → List (Addr × Obj) → Prop) (o : Obj) (fp : List Addr) (St : Nat → Heap → Prop) (I : Addr), pQ α xs V src m news J o fp St I) → for_rule_sb1.1 prog w A E h₀ env outer exc x body Q px pos iter s₁ xv } := ⟨_, by
  intro hP_en
  intro hfr hf hx hp h₁
  obtain ⟨α, xs, V, src, m, news, J, ⟨h1, h1d, h2⟩, F, N, hj, turn, done, hE⟩ := h₁
  refine h2 s₁ _ _ rfl fun o fp St Sr hfree hnd hfp hst => ?_
  generalize hI : s₁.heap.objs.size = I at Sr hfp hst
  have hIL : env.locals ≠ I := by rw [← hI]; exact Nat.ne_of_lt F.ns.lt
  have hI₀ : h₀.get? I = none := by rw [← hI]; exact next_is_new F
  have hsrcI : ∀ p ∈ src, p.1 ≠ I := fun p hp => by rw [← hI]; exact Nat.ne_of_lt (Heap.lt_size (h1 p hp))
  have hsrcL : ∀ p ∈ src, p.1 ≠ env.locals := fun p hp q => by
    obtain ⟨oL, es, ep, hL, hd, _⟩ := F.ns
    rw [← q, h1 p hp] at hL
    cases hL
    exact h1d p hp es ep hd
  have hE' : ∀ e s', EIs exc (env :: outer) h₀ env.locals s₁ e s' → notedBy (model prog w) A env (fun e s' => cameBackBy (model prog w) A env E e s') e s' :=
    EIs.noted hfr hf hf (EIs.cameBack (EIs.to hE))
  revert hx hp h1 F N hj turn done hst hI Sr hIL hI₀ hsrcI hsrcL hE'; exact hP_en α xs V src m news J o fp St I⟩
namespace en
noncomputable def c0 : (α : Type) × (List α) × (α → Value → Prop) × (List (Addr × Obj)) × (Str → Option Value) × (List (Addr × Obj)) × (Nat → (Str → Option Value) → List (Addr × Obj) → Prop) × (Obj) × (List Addr) × (Nat → Heap → Prop) × (Addr) × Unit := pick ⟨⟨PUnit, default, default, default, default, default, default, default, default, default, default, ()⟩⟩ fun q => for_rule_sb2.1 q.1 q.2.1 q.2.2.1 q.2.2.2.1 q.2.2.2.2.1 q.2.2.2.2.2.1 q.2.2.2.2.2.2.1 q.2.2.2.2.2.2.2.1 q.2.2.2.2.2.2.2.2.1 q.2.2.2.2.2.2.2.2.2.1 q.2.2.2.2.2.2.2.2.2.2.1
@[irreducible] noncomputable def α : Type := c0.1
@[irreducible] noncomputable def xs : List α := by with_unfolding_all exact c0.2.1
@[irreducible] noncomputable def V : α → Value → Prop := by with_unfolding_all exact c0.2.2.1
@[irreducible] noncomputable def src : List (Addr × Obj) := c0.2.2.2.1
@[irreducible] noncomputable def m : Str → Option Value := c0.2.2.2.2.1
@[irreducible] noncomputable def news : List (Addr × Obj) := c0.2.2.2.2.2.1
@[irreducible] noncomputable def J : Nat → (Str → Option Value) → List (Addr × Obj) → Prop := c0.2.2.2.2.2.2.1
@[irreducible] noncomputable def o : Obj := c0.2.2.2.2.2.2.2.1
@[irreducible] noncomputable def fp : List Addr := c0.2.2.2.2.2.2.2.2.1
@[irreducible] noncomputable def St : Nat → Heap → Prop := c0.2.2.2.2.2.2.2.2.2.1
@[irreducible] noncomputable def I : Addr := c0.2.2.2.2.2.2.2.2.2.2.1
noncomputable def for_rule_sb3 : { pQ : (Heap) → (Nat) → (Str → Option Value) → (List (Addr × Obj)) → (Nat) → Prop // (∀ (h' : Heap) (tk : Nat) (m' : Str → Option Value) (news' : List (Addr × Obj)) (i : Nat), pQ h' tk m' news' i) → for_rule_sb2.1 α xs V src m news J o fp St I } := ⟨_, by
  intro hP_go
  intro hx hp h1 F N hj turn done hst hI Sr hIL hI₀ hsrcI hsrcL hE'
  refine codeAny_forLoop (R := fun r s' => match r with | .ok f => Q f s' | .error e => cameBackBy (model prog w) A env E e s')
    (fun k s' => ∃ h' tk m' news' i, s' = { s₁ with heap := h', toks := tk } ∧ St i h' ∧ Stand src h' ∧ Fr h₀ env.locals h' m' ∧ News h₀ env.locals h' news' ∧ (∀ p ∈ news', p.1 ≠ I) ∧ J i m' news' ∧ i ≤ xs.length ∧ k = xs.length + 1 - i) ?_ (xs.length + 1)
    ⟨s₁.heap.push o, s₁.toks, m, news, 0, rfl, hst, fun p hp => Heap.get?_push_of_some _ (h1 p hp), F.push _, fun p hp => ⟨Heap.get?_push_of_some _ (N p hp).1, (N p hp).2⟩, fun p hp => by rw [← hI]; exact Nat.ne_of_lt (Heap.lt_size (N p hp).1), hj, Nat.zero_le _, rfl⟩
  rintro k s' ⟨h', tk, m', news', i, rfl, hst', hS', F', N', hnI, hJ, hi, rfl⟩
  revert hx hp turn done Sr hIL hI₀ hsrcI hsrcL hE' hst' hS' F' N' hnI hJ hi; exact hP_go h' tk m' news' i⟩
namespace go
noncomputable def c0 : (Heap) × (Nat) × (Str → Option Value) × (List (Addr × Obj)) × (Nat) × Unit := pick ⟨⟨default, default, default, default, default, ()⟩⟩ fun q => for_rule_sb3.1 q.1 q.2.1 q.2.2.1 q.2.2.2.1 q.2.2.2.2.1
@[irreducible] noncomputable def h' : Heap := c0.1
@[irreducible] noncomputable def tk : Nat := c0.2.1
@[irreducible] noncomputable def m' : Str → Option Value := c0.2.2.1
@[irreducible] noncomputable def news' : List (Addr × Obj) := c0.2.2.2.1
@[irreducible] noncomputable def i : Nat := c0.2.2.2.2.1
theorem main : for_rule_sb3.1 h' tk m' news' i := by
  intro hx hp turn done Sr hIL hI₀ hsrcI hsrcL hE' hst' hS' F' N' hnI hJ hi
  have next : ∀ h₁ : Heap, (∀ b o, b ∉ [I] → h'.get? b = some o → h₁.get? b = some o) → Fr h₀ env.locals h₁ m' ∧ News h₀ env.locals h₁ news' ∧ Stand src h₁ := fun h₁ hk₁ =>
    ⟨LCg.fr_but F' hk₁ hIL hI₀, LCg.news_but N' hk₁ hnI, fun p hp => hk₁ _ _ (by simpa using hsrcI p hp) (hS' p hp)⟩
  by_cases hlt : i < xs.length
  · refine Sr.walks.item i _ _ _ hlt hst' fun v h₁ tk₁ hP hst₁ hk₁ => ?_
    obtain ⟨a, ha, hV⟩ := hP
    obtain ⟨F₁, N₁, S₁⟩ := next h₁ hk₁
    refine wpAny_assign_Name (wpAny_storeName_local hx F₁.ns (fun h₂ hn₂ hs₂ => ?_) hp)
    have F₂ := F₁.set hn₂ hs₂
    have N₂ := N₁.set hs₂
    have S₂ : Stand src h₂ := fun p hp => (hs₂.2 p.1 (hsrcL p hp)).trans (S₁ p hp)
    obtain ⟨oI, heI⟩ := Sr.it _ _ hst₁
    have heI₂ : h₂.get? I = some oI := (hs₂.2 I (Ne.symm hIL)).trans heI
    have hst₂ := Sr.stay _ _ _ _ hst₁ heI heI₂ S₂
    let T : Shared → Prop := fun s₃ => ∃ k', k' < xs.length + 1 - i ∧ ∃ h' tk m' news' i, s₃ = { s₁ with heap := h', toks := tk } ∧ St i h' ∧ Stand src h' ∧ Fr h₀ env.locals h' m' ∧ News h₀ env.locals h' news' ∧ (∀ p ∈ news', p.1 ≠ I) ∧ J i m' news' ∧ i ≤ xs.length ∧ k' = xs.length + 1 - i
    refine wpAny_mono (turn i a v m' news' h₂ _ ha hV hJ S₂ I oI (fun f s₃ => match f with
      | .next => T s₃
      | .cont => T s₃
      | .brk => Q .next s₃
      | .ret v => Q (.ret v) s₃) (EIs exc (env :: outer) h₀ env.locals s₁) F₂ (fun p hp => ?_) hnI (fun f m₃ news₃ h₃ tk₃ hf₃ F₃ N₃ hn₃ S₃ J₃ => ?_) (fun _ q => q) (fun _ _ q => q) EIs.ok) (fun f s₃ q => ?_) hE'
    · rcases List.mem_cons.mp hp with rfl | hp
      · exact ⟨heI₂, Ne.symm hIL, hI₀⟩
      · exact N₂ p hp
    · have : T { s₁ with heap := h₃, toks := tk₃ } :=
        ⟨xs.length + 1 - (i + 1), by omega, h₃, tk₃, m₃, news₃, i + 1, rfl, Sr.stay _ _ _ _ hst₂ heI₂ (N₃ (I, oI) List.mem_cons_self).1 S₃, S₃, F₃, fun p hp => N₃ p (List.mem_cons_of_mem _ hp), hn₃, J₃, hlt, rfl⟩
      rcases hf₃ with rfl | rfl <;> exact this
    · cases f <;> exact q
  · have hil : i = xs.length := by omega
    rw [hil] at hst' hJ
    refine Sr.walks.done _ _ _ hst' fun h₁ tk₁ hk₁ => wpAny_execs_nil ?_
    obtain ⟨F₁, N₁, S₁⟩ := next h₁ hk₁
    exact done m' news' h₁ tk₁ hJ S₁ F₁ N₁
theorem all : ∀ a0 a1 a2 a3 a4, for_rule_sb3.1 a0 a1 a2 a3 a4 := by
  have q1 : (fun q : (Heap) × (Nat) × (Str → Option Value) × (List (Addr × Obj)) × (Nat) × Unit => for_rule_sb3.1 q.1 q.2.1 q.2.2.1 q.2.2.2.1 q.2.2.2.2.1) (pick ⟨⟨default, default, default, default, default, ()⟩⟩ fun q => for_rule_sb3.1 q.1 q.2.1 q.2.2.1 q.2.2.2.1 q.2.2.2.2.1) := by with_unfolding_all exact main
  exact fun a0 a1 a2 a3 a4 => pick_spec (P := fun q : (Heap) × (Nat) × (Str → Option Value) × (List (Addr × Obj)) × (Nat) × Unit => for_rule_sb3.1 q.1 q.2.1 q.2.2.1 q.2.2.2.1 q.2.2.2.2.1) (ne := ⟨⟨default, default, default, default, default, ()⟩⟩) q1 ⟨a0, a1, a2, a3, a4, ()⟩
end go
theorem main : for_rule_sb2.1 α xs V src m news J o fp St I := for_rule_sb3.2 go.all
theorem all : ∀ a0 a1 a2 a3 a4 a5 a6 a7 a8 a9 a10, for_rule_sb2.1 a0 a1 a2 a3 a4 a5 a6 a7 a8 a9 a10 := by
  have q1 : (fun q : (α : Type) × (List α) × (α → Value → Prop) × (List (Addr × Obj)) × (Str → Option Value) × (List (Addr × Obj)) × (Nat → (Str → Option Value) → List (Addr × Obj) → Prop) × (Obj) × (List Addr) × (Nat → Heap → Prop) × (Addr) × Unit => for_rule_sb2.1 q.1 q.2.1 q.2.2.1 q.2.2.2.1 q.2.2.2.2.1 q.2.2.2.2.2.1 q.2.2.2.2.2.2.1 q.2.2.2.2.2.2.2.1 q.2.2.2.2.2.2.2.2.1 q.2.2.2.2.2.2.2.2.2.1 q.2.2.2.2.2.2.2.2.2.2.1) (pick ⟨⟨PUnit, default, default, default, default, default, default, default, default, default, default, ()⟩⟩ fun q => for_rule_sb2.1 q.1 q.2.1 q.2.2.1 q.2.2.2.1 q.2.2.2.2.1 q.2.2.2.2.2.1 q.2.2.2.2.2.2.1 q.2.2.2.2.2.2.2.1 q.2.2.2.2.2.2.2.2.1 q.2.2.2.2.2.2.2.2.2.1 q.2.2.2.2.2.2.2.2.2.2.1) := by with_unfolding_all exact main
  exact fun a0 a1 a2 a3 a4 a5 a6 a7 a8 a9 a10 => pick_spec (P := fun q : (α : Type) × (List α) × (α → Value → Prop) × (List (Addr × Obj)) × (Str → Option Value) × (List (Addr × Obj)) × (Nat → (Str → Option Value) → List (Addr × Obj) → Prop) × (Obj) × (List Addr) × (Nat → Heap → Prop) × (Addr) × Unit => for_rule_sb2.1 q.1 q.2.1 q.2.2.1 q.2.2.2.1 q.2.2.2.2.1 q.2.2.2.2.2.1 q.2.2.2.2.2.2.1 q.2.2.2.2.2.2.2.1 q.2.2.2.2.2.2.2.2.1 q.2.2.2.2.2.2.2.2.2.1 q.2.2.2.2.2.2.2.2.2.2.1) (ne := ⟨⟨PUnit, default, default, default, default, default, default, default, default, default, default, ()⟩⟩) q1 ⟨a0, a1, a2, a3, a4, a5, a6, a7, a8, a9, a10, ()⟩
end en
theorem main : for_rule_sb1.1 prog w A E h₀ env outer exc x body Q px pos iter s₁ xv := for_rule_sb2.2 en.all
theorem all : ∀ a0 a1 a2 a3 a4 a5 a6 a7 a8 a9 a10 a11 a12 a13 a14 a15, for_rule_sb1.1 a0 a1 a2 a3 a4 a5 a6 a7 a8 a9 a10 a11 a12 a13 a14 a15 := by
  have q1 : (fun q : (Program) × (World) × (Around) × (Value → Shared → Prop) × (Heap) × (Env) × (List Env) × (Prop) × (Str) × (List Stmt) × (Flow → Shared → Prop) × (Pos) × (Pos) × (Expr) × (Shared) × (Value) × Unit => for_rule_sb1.1 q.1 q.2.1 q.2.2.1 q.2.2.2.1 q.2.2.2.2.1 q.2.2.2.2.2.1 q.2.2.2.2.2.2.1 q.2.2.2.2.2.2.2.1 q.2.2.2.2.2.2.2.2.1 q.2.2.2.2.2.2.2.2.2.1 q.2.2.2.2.2.2.2.2.2.2.1 q.2.2.2.2.2.2.2.2.2.2.2.1 q.2.2.2.2.2.2.2.2.2.2.2.2.1 q.2.2.2.2.2.2.2.2.2.2.2.2.2.1 q.2.2.2.2.2.2.2.2.2.2.2.2.2.2.1 q.2.2.2.2.2.2.2.2.2.2.2.2.2.2.2.1) (pick ⟨⟨default, dW, dA, default, default, default, default, default, default, default, default, default, default, default, dS, default, ()⟩⟩ fun q => for_rule_sb1.1 q.1 q.2.1 q.2.2.1 q.2.2.2.1 q.2.2.2.2.1 q.2.2.2.2.2.1 q.2.2.2.2.2.2.1 q.2.2.2.2.2.2.2.1 q.2.2.2.2.2.2.2.2.1 q.2.2.2.2.2.2.2.2.2.1 q.2.2.2.2.2.2.2.2.2.2.1 q.2.2.2.2.2.2.2.2.2.2.2.1 q.2.2.2.2.2.2.2.2.2.2.2.2.1 q.2.2.2.2.2.2.2.2.2.2.2.2.2.1 q.2.2.2.2.2.2.2.2.2.2.2.2.2.2.1 q.2.2.2.2.2.2.2.2.2.2.2.2.2.2.2.1) := by with_unfolding_all exact main
  exact fun a0 a1 a2 a3 a4 a5 a6 a7 a8 a9 a10 a11 a12 a13 a14 a15 => pick_spec (P := fun q : (Program) × (World) × (Around) × (Value → Shared → Prop) × (Heap) × (Env) × (List Env) × (Prop) × (Str) × (List Stmt) × (Flow → Shared → Prop) × (Pos) × (Pos) × (Expr) × (Shared) × (Value) × Unit => for_rule_sb1.1 q.1 q.2.1 q.2.2.1 q.2.2.2.1 q.2.2.2.2.1 q.2.2.2.2.2.1 q.2.2.2.2.2.2.1 q.2.2.2.2.2.2.2.1 q.2.2.2.2.2.2.2.2.1 q.2.2.2.2.2.2.2.2.2.1 q.2.2.2.2.2.2.2.2.2.2.1 q.2.2.2.2.2.2.2.2.2.2.2.1 q.2.2.2.2.2.2.2.2.2.2.2.2.1 q.2.2.2.2.2.2.2.2.2.2.2.2.2.1 q.2.2.2.2.2.2.2.2.2.2.2.2.2.2.1 q.2.2.2.2.2.2.2.2.2.2.2.2.2.2.2.1) (ne := ⟨⟨default, dW, dA, default, default, default, default, default, default, default, default, default, default, default, dS, default, ()⟩⟩) q1 ⟨a0, a1, a2, a3, a4, a5, a6, a7, a8, a9, a10, a11, a12, a13, a14, a15, ()⟩
end for_rule_e0
end
section
variable {prog : Program} {w : World} {A : Around} {E : Value → Shared → Prop} {s : Shared} {h₀ : Heap} {env : Env} {outer : List Env} {exc : Prop} {x : Str} {body : List Stmt} {Q : Flow → Shared → Prop}
theorem for_rule {px pos : Pos} {iter : Expr} {m₀ : Str → Option Value} (_F₀ : Fr h₀ env.locals s.heap m₀) (hfr : A.frames = some (env :: outer)) (hf : env.frame = some env.locals) (hx : env.kindOf x = some .local)
    (hp : (env.scope.kind == .class || (env.scope.kind == .module && env.locals != env.globals)) = false)
    (h : wpAny (model prog w) A (eval iter env) (ForGo prog w A h₀ env outer x body Q E exc) E s) (hs : ∀ x, foldedSetIterable iter env x = pure x := by intro _; rfl) :
    wpAny (model prog w) A (exec (.For (.Name x px) iter body [] pos) env) Q E s :=
  for_rule_sb1.2 for_rule_e0.all prog w A E s h₀ env outer exc x body Q px pos iter m₀ _F₀ hfr hf hx hp h hs
end
end Mine
end
section
open PySem PySem.W PyProof.Rows PySem.Calls
open PyProof.Rows.LCg (lst Off3 Off1 NsObj ns_obj lst_snoc fr_but news_but)
namespace Mine
set_option maxRecDepth 100000

section
variable {prog : Program} {w : World} {A : Around} {E : Value → Shared → Prop} {s : Shared} {h₀ : Heap} {L : Addr} {m : Str → Option Value} {env : Env} {outer : List Env} {exc : Prop} {elt : PySem.Expr} {ifs : List PySem.Expr} {x : Str} {scope : Scope} {cl : List (Str × Addr)}

/-- the element of a comprehension, evaluated once (the iterator I, the names C, the list so far D) -/
noncomputable def CTurnI (prog : Program) (w : World) (A : Around) (h₀ : Heap) (L : Addr) (m : Str → Option Value) (env : Env) (outer : List Env) (elt : PySem.Expr) (ifs : List PySem.Expr) (scope : Scope) (cl : List (Str × Addr)) (exc : Prop) (s₁ : Shared) (src : List (Addr × Obj)) (C : Addr) (oC : Obj)
    (Jn : Value → List (Addr × Obj) → Prop) (Js : List (Addr × Obj) → Prop) (ys : List Value) (news : List (Addr × Obj)) (h : Heap) (tk : Nat) : Prop :=
  ∀ (I : Addr) (oI : Obj) (D : Addr) (Q' : Value → Shared → Prop) (Qs : Shared → Prop) (E' : Value → Shared → Prop), Fr h₀ L h m → News h₀ L h ((I, oI) :: (C, oC) :: (D, lst ys) :: news) → Off3 I C D news → ((@Ne Nat I C) ∧ (@Ne Nat I D) ∧ (@Ne Nat C D)) →
    (∀ y news' h' tk', Fr h₀ L h' m → News h₀ L h' ((I, oI) :: (C, oC) :: (D, lst ys) :: news') → Off3 I C D news' → Stand src h' → Jn y news' → Q' y { s₁ with heap := h', toks := tk' }) →
    (∀ news' h' tk', Fr h₀ L h' m → News h₀ L h' ((I, oI) :: (C, oC) :: (D, lst ys) :: news') → Off3 I C D news' → Stand src h' → Js news' → Qs { s₁ with heap := h', toks := tk' }) →
    (exc → ∀ ea hE h' tk', Fr h₀ L hE m → hE.get? C = some oC → ExcAt (env :: outer) hE h' ea → E' (.ref ea) { s₁ with heap := h', toks := tk' }) →
    wpAny (model prog w) A (forIn ifs true fun c r => if r = true then do let ok ← isTrue c (compEnvC scope cl C env) (eval c (compEnvC scope cl C env)); pure (ForInStep.yield ok) else pure (ForInStep.yield r))
      (fun ok s₃ => if ok = true then wpAny (model prog w) A (eval elt (compEnvC scope cl C env)) Q' E' s₃ else Qs s₃) E' { s₁ with heap := h, toks := tk }

noncomputable def CompGoI (prog : Program) (w : World) (A : Around) (h₀ : Heap) (L : Addr) (m : Str → Option Value) (env : Env) (outer : List Env) (elt : PySem.Expr) (ifs : List PySem.Expr) (x : Str) (scope : Scope) (cl : List (Str × Addr)) (Fin : Shared → List Value → List (Addr × Obj) → Prop) (E : Value → Shared → Prop) (exc : Prop) (xv : Value) (s₁ : Shared) : Prop :=
  ∃ (α : Type) (xs : List α) (V : α → Value → Prop) (src : List (Addr × Obj)) (news : List (Addr × Obj)) (J : Nat → List Value → List (Addr × Obj) → Prop),
    IterOf prog w A xv s₁.heap xs V src ∧ Fr h₀ L s₁.heap m ∧ News h₀ L s₁.heap news ∧ xs.length ≤ sizeLine ∧ J 0 [] news ∧
    (∀ i a v ys news₁ h tk C oC m₂, xs[i]? = some a → V a v → J i ys news₁ → Stand src h → NsObj oC m₂ → m₂ x = some v → ys.length ≤ i → CTurnI prog w A h₀ L m env outer elt ifs scope cl exc s₁ src C oC (fun y => J (i + 1) (ys ++ [y])) (J (i + 1) ys) ys news₁ h tk) ∧
    (∀ ys news', J xs.length ys news' → ys.length ≤ xs.length → Fin s₁ ys news') ∧ (exc → EOk (env :: outer) h₀ L s₁ E)

end
section
noncomputable def comp_blockI_S : Prop := (∀ (prog : Program) (w : World) (A : Around) (E : Value → Shared → Prop) (h₀ : Heap) (L : Addr) (m : Str → Option Value) (env : Env) (outer : List Env) (exc : Prop) (elt : PySem.Expr) (ifs : List PySem.Expr) (x : Str) (scope : Scope) (cl : List (Str × Addr)) (iter : PySem.Expr) (px : Pos) (pos : Pos) (xv : Value) (s₁ : Shared) (Fin : Shared → List Value → List (Addr × Obj) → Prop) (RR : Value → Addr → Result → Shared → Prop) (hfr : exc → A.frames = some (env :: outer)) (hf : env.frame = some L) (hout : exc → ∀ b ∈ outer.filterMap (·.frame), ∃ o, h₀.get? b = some o) (hcell : ∀ y ∈ scope.names, y.2 ≠ .cell) (hkind : scope.kind = .function) (hx : scope.names.lookup x = some .local) (G : CompGoI prog w A h₀ L m env outer elt ifs x scope cl Fin E exc xv s₁) (hRR : ∀ D C h tk m' ys news', Fr h₀ L h m → News h₀ L h ((D, lst ys) :: news') → Off1 D news' → h.Ns C m' → h₀.get? C = none → h₀.get? D = none → C ≠ L → D ≠ L → C ≠ D → (∀ p ∈ news', p.1 ≠ C) → Fin s₁ ys news' → RR (.ref D) C (.ok .next) { s₁ with heap := h, toks := tk }) (hRE : ∀ D C ea h' tk m', h'.Ns C m' → (∀ h'', Heap.SameBut C h' h'' → ∀ cenv : Env, cenv.locals = C → wpAny (model prog w) A (PySem.passOn "comprehension.variables-let-go" (.ref ea) cenv : Sem Value) (fun _ _ => False) E { s₁ with heap := h'', toks := tk }) → RR (.ref D) C (.error (.ref ea)) { s₁ with heap := h', toks := tk }), wpAny (model prog w) A (pyIter xv) (fun it s₂ => wpAny (model prog w) A (newList []) (fun acc s₃ => wpAny (model prog w) A (newFunctionEnv scope env.globals cl [] env.qual none .none (some env)) (fun cenv s₄ =>
      codeAny (model prog w) A (.compStart (.ListComp elt [⟨.Name x px, iter, ifs, 0⟩] scope pos) 0 it acc { cenv with scope := relabel scope env }) (RR acc cenv.locals) s₄) E s₃) E s₂) E s₁)
noncomputable def comp_blockI_sb1 : { pQ : (Program) → (World) → (Around) → (Value → Shared → Prop) → (Heap) → (Addr) → (Str → Option Value) → (Env) → (List Env) → (Prop) → (PySem.Expr) → (List PySem.Expr) → (Str) → (Scope) → (List (Str × Addr)) → (PySem.Expr) → (Pos) → (Pos) → (Shared) → (Shared → List Value → List (Addr × Obj) → Prop) → (Value → Addr → Result → Shared → Prop) → (Value) → Prop // (∀ (prog : Program) (w : World) (A : Around) (E : Value → Shared → Prop) (h₀ : Heap) (L : Addr) (m : Str → Option Value) (env : Env) (outer : List Env) (exc : Prop) (elt : PySem.Expr) (ifs : List PySem.Expr) (x : Str) (scope : Scope) (cl : List (Str × Addr)) (iter : PySem.Expr) (px : Pos) (pos : Pos) (s₁ : Shared) (Fin : Shared → List Value → List (Addr × Obj) → Prop) (RR : Value → Addr → Result → Shared → Prop) (xv : Value), pQ prog w A E h₀ L m env outer exc elt ifs x scope cl iter px pos s₁ Fin RR xv) → comp_blockI_S } := ⟨_, by
  intro hP_e0
  intro prog w A E h₀ L m env outer exc elt ifs x scope cl iter px pos xv s₁ Fin RR hfr hf hout hcell hkind hx G hRR hRE
  revert hfr hf hout hcell hkind hx G hRR hRE; exact hP_e0 prog w A E h₀ L m env outer exc elt ifs x scope cl iter px pos s₁ Fin RR xv⟩
namespace comp_blockI_e0
noncomputable def c0 : (Program) × (World) × (Around) × (Value → Shared → Prop) × (Heap) × (Addr) × (Str → Option Value) × (Env) × (List Env) × (Prop) × (PySem.Expr) × (List PySem.Expr) × (Str) × (Scope) × (List (Str × Addr)) × (PySem.Expr) × (Pos) × (Pos) × (Shared) × (Shared → List Value → List (Addr × Obj) → Prop) × (Value → Addr → Result → Shared → Prop) × (Value) × Unit := pick ⟨⟨default, dW, dA, default, default, default, default, default, default, default, default, default, default, default, default, default, default, default, dS, default, default, default, ()⟩⟩ fun q => comp_blockI_sb1.1 q.1 q.2.1 q.2.2.1 q.2.2.2.1 q.2.2.2.2.1 q.2.2.2.2.2.1 q.2.2.2.2.2.2.1 q.2.2.2.2.2.2.2.1 q.2.2.2.2.2.2.2.2.1 q.2.2.2.2.2.2.2.2.2.1 q.2.2.2.2.2.2.2.2.2.2.1 q.2.2.2.2.2.2.2.2.2.2.2.1 q.2.2.2.2.2.2.2.2.2.2.2.2.1 q.2.2.2.2.2.2.2.2.2.2.2.2.2.1 q.2.2.2.2.2.2.2.2.2.2.2.2.2.2.1 q.2.2.2.2.2.2.2.2.2.2.2.2.2.2.2.1 q.2.2.2.2.2.2.2.2.2.2.2.2.2.2.2.2.1 q.2.2.2.2.2.2.2.2.2.2.2.2.2.2.2.2.2.1 q.2.2.2.2.2.2.2.2.2.2.2.2.2.2.2.2.2.2.1 q.2.2.2.2.2.2.2.2.2.2.2.2.2.2.2.2.2.2.2.1 q.2.2.2.2.2.2.2.2.2.2.2.2.2.2.2.2.2.2.2.2.1 q.2.2.2.2.2.2.2.2.2.2.2.2.2.2.2.2.2.2.2.2.2.1
@[irreducible] noncomputable def prog : Program := c0.1
@[irreducible] noncomputable def w : World := c0.2.1
@[irreducible] noncomputable def A : Around := c0.2.2.1
@[irreducible] noncomputable def E : Value → Shared → Prop := c0.2.2.2.1
@[irreducible] noncomputable def h₀ : Heap := c0.2.2.2.2.1
@[irreducible] noncomputable def L : Addr := c0.2.2.2.2.2.1
@[irreducible] noncomputable def m : Str → Option Value := c0.2.2.2.2.2.2.1
@[irreducible] noncomputable def env : Env := c0.2.2.2.2.2.2.2.1
@[irreducible] noncomputable def outer : List Env := c0.2.2.2.2.2.2.2.2.1
@[irreducible] noncomputable def exc : Prop := c0.2.2.2.2.2.2.2.2.2.1
@[irreducible] noncomputable def elt : PySem.Expr := c0.2.2.2.2.2.2.2.2.2.2.1
@[irreducible] noncomputable def ifs : List PySem.Expr := c0.2.2.2.2.2.2.2.2.2.2.2.1
@[irreducible] noncomputable def x : Str := c0.2.2.2.2.2.2.2.2.2.2.2.2.1
@[irreducible] noncomputable def scope : Scope := c0.2.2.2.2.2.2.2.2.2.2.2.2.2.1
@[irreducible] noncomputable def cl : List (Str × Addr) := c0.2.2.2.2.2.2.2.2.2.2.2.2.2.2.1
@[irreducible] noncomputable def iter : PySem.Expr := c0.2.2.2.2.2.2.2.2.2.2.2.2.2.2.2.1
@[irreducible] noncomputable def px : Pos := c0.2.2.2.2.2.2.2.2.2.2.2.2.2.2.2.2.1
@[irreducible] noncomputable def pos : Pos := c0.2.2.2.2.2.2.2.2.2.2.2.2.2.2.2.2.2.1
@[irreducible] noncomputable def s₁ : Shared := c0.2.2.2.2.2.2.2.2.2.2.2.2.2.2.2.2.2.2.1
@[irreducible] noncomputable def Fin : Shared → List Value → List (Addr × Obj) → Prop := c0.2.2.2.2.2.2.2.2.2.2.2.2.2.2.2.2.2.2.2.1
@[irreducible] noncomputable def RR : Value → Addr → Result → Shared → Prop := c0.2.2.2.2.2.2.2.2.2.2.2.2.2.2.2.2.2.2.2.2.1
@[irreducible] noncomputable def xv : Value := c0.2.2.2.2.2.2.2.2.2.2.2.2.2.2.2.2.2.2.2.2.2.1
noncomputable def comp_blockI_sb2 : { pQ : (α : Type) → (List α) → (α → Value → Prop) → (List (Addr × Obj)) → (List (Addr × Obj)) → (Nat → List Value → List (Addr × Obj) → Prop) → (List Addr) → (Nat → Heap → Prop) → (Addr) → (Heap) → (Heap) → (Heap) → Prop // (∀ (α : Type) (xs : List α) (V : α → Value → Prop) (src : List (Addr × Obj)) (news : List (Addr × Obj)) (J : Nat → List Value → List (Addr × Obj) → Prop) (fp : List Addr) (St : Nat → Heap → Prop) (I : Addr) (hp₂ : Heap) (h₁ : Heap) (H2 : Heap), pQ α xs V src news J fp St I hp₂ h₁ H2) → comp_blockI_sb1.1 prog w A E h₀ L m env outer exc elt ifs x scope cl iter px pos s₁ Fin RR xv } := ⟨_, by
  intro hP_go
  intro hfr hf hout hcell hkind hx G hRR hRE
  obtain ⟨α, xs, V, src, news, J, ⟨h1, h1d, h2⟩, F₀, N₀, hsz, hj, turn, done, hE⟩ := G
  refine h2 s₁ _ _ rfl fun o fp St Sr hfree hnd hfp hst₀ => ?_
  generalize hI : s₁.heap.objs.size = I at Sr hfp hst₀
  have hIL : L ≠ I := by rw [← hI]; exact Nat.ne_of_lt F₀.ns.lt
  have hI₀ : h₀.get? I = none := by rw [← hI]; exact next_is_new F₀
  have hsrcI : ∀ p ∈ src, p.1 ≠ I := fun p hp => by rw [← hI]; exact Nat.ne_of_lt (Heap.lt_size (h1 p hp))
  have F : Fr h₀ L (s₁.heap.push o) m := F₀.push _
  have N : News h₀ L (s₁.heap.push o) news := fun p hp => ⟨Heap.get?_push_of_some _ (N₀ p hp).1, (N₀ p hp).2⟩
  have off : ∀ p ∈ news, p.1 ≠ I := fun p hp => by rw [← hI]; exact Nat.ne_of_lt (Heap.lt_size (N₀ p hp).1)
  have S₀ : Stand src (s₁.heap.push o) := fun p hp => Heap.get?_push_of_some _ (h1 p hp)
  have hIobj : ∃ oI, (s₁.heap.push o).get? I = some oI := Sr.it _ _ hst₀
  generalize hs₂ : s₁.heap.push o = hp₂ at F N S₀ hst₀ hIobj
  refine wpAny_newObj_type (wpAny_newFunctionEnv hcell (by intro y hy; simp at hy) (fun h₁ hns₁ hsb₁ => ?_) hkind)
  dsimp only at hns₁ hsb₁ ⊢
  generalize hH2 : hp₂.push { cls := .type "list", dict := none, data := .seq ([] : List Value).toArray } = H2 at hns₁ hsb₁ ⊢
  have hC : H2.objs.size = hp₂.objs.size + 1 := by rw [← hH2, Heap.size_push]
  have hDC : hp₂.objs.size ≠ H2.objs.size := by rw [hC]; exact Nat.ne_of_lt (Nat.lt_succ_self _)
  have below : ∀ b, b < hp₂.objs.size → b ≠ H2.objs.size ∧ b ≠ hp₂.objs.size := fun b hb => ⟨by rw [hC]; exact Nat.ne_of_lt (Nat.lt_succ_of_lt hb), Nat.ne_of_lt hb⟩
  have hIlt : I < hp₂.objs.size := by obtain ⟨oI, hoI⟩ := hIobj; exact Heap.lt_size hoI
  have old : ∀ b o, hp₂.get? b = some o → h₁.get? b = some o := fun b o e => hsb₁.extBut b o (below b (Heap.lt_size e)).1 (Heap.get?_push_of_some _ (hH2 ▸ Heap.get?_push_of_some _ e))
  have hacc : h₁.get? hp₂.objs.size = some (lst []) := hsb₁.extBut _ _ hDC (Heap.get?_push_of_some _ (hH2 ▸ Heap.get?_push_size _ rfl))
  have fresh : ∀ a, hp₂.objs.size ≤ a → hp₂.get? a = none := fun a ha => by
    cases e : hp₂.get? a with
    | none => rfl
    | some o' => exact absurd (Heap.lt_size e) (Nat.not_lt.mpr ha)
  have fresh₀ : ∀ a, hp₂.objs.size ≤ a → h₀.get? a = none := fun a ha => by
    cases e : h₀.get? a with
    | none => rfl
    | some o' => have := F.keep a o' e; rw [fresh a ha] at this; cases this
  have hD₀ : h₀.get? hp₂.objs.size = none := fresh₀ _ (Nat.le_refl _)
  have hC₀ : h₀.get? H2.objs.size = none := fresh₀ _ (by rw [hC]; exact Nat.le_succ _)
  have hLlt : L < hp₂.objs.size := F.ns.lt
  have hDL : hp₂.objs.size ≠ L := Ne.symm (below L hLlt).2
  have hCL : H2.objs.size ≠ L := Ne.symm (below L hLlt).1
  have hCI : I ≠ H2.objs.size := (below I hIlt).1
  have hDI : I ≠ hp₂.objs.size := (below I hIlt).2
  have hCsrc : ∀ p ∈ src, p.1 ≠ H2.objs.size := fun p hp => (below _ (Heap.lt_size (S₀ p hp))).1
  have hDsrc : ∀ p ∈ src, p.1 ≠ hp₂.objs.size := fun p hp => (below _ (Heap.lt_size (S₀ p hp))).2
  have hCfr : exc → H2.objs.size ∉ (env :: outer).filterMap (·.frame) := fun hx hm => by
    rw [List.filterMap_cons, hf] at hm
    rcases List.mem_cons.mp hm with q | hm
    · exact hCL q
    · obtain ⟨o, ho⟩ := hout hx _ hm
      rw [hC₀] at ho; cases ho
  have off₀ : Off3 I H2.objs.size hp₂.objs.size news := Off3.of fun p hp => ⟨off p hp, (below _ (Heap.lt_size (N p hp).1)).1, (below _ (Heap.lt_size (N p hp).1)).2⟩
  obtain ⟨oI₀, heI₀⟩ := hIobj
  have S₁ : Stand src h₁ := fun p hp => old _ _ (S₀ p hp)
  have hst₁ : St 0 h₁ := Sr.stay _ _ _ _ hst₀ heI₀ (old _ _ heI₀) S₁
  revert hfr hf hkind hx hRR hRE hsz hj turn done hE Sr hIL hI₀ hsrcI F N hns₁ hDC old hacc hD₀ hC₀ hDL hCL hCI hDI hCsrc hDsrc hCfr off₀ S₁ hst₁; exact hP_go α xs V src news J fp St I hp₂ h₁ H2⟩
namespace go
noncomputable def c0 : (α : Type) × (List α) × (α → Value → Prop) × (List (Addr × Obj)) × (List (Addr × Obj)) × (Nat → List Value → List (Addr × Obj) → Prop) × (List Addr) × (Nat → Heap → Prop) × (Addr) × (Heap) × (Heap) × (Heap) × Unit := pick ⟨⟨PUnit, default, default, default, default, default, default, default, default, default, default, default, ()⟩⟩ fun q => comp_blockI_sb2.1 q.1 q.2.1 q.2.2.1 q.2.2.2.1 q.2.2.2.2.1 q.2.2.2.2.2.1 q.2.2.2.2.2.2.1 q.2.2.2.2.2.2.2.1 q.2.2.2.2.2.2.2.2.1 q.2.2.2.2.2.2.2.2.2.1 q.2.2.2.2.2.2.2.2.2.2.1 q.2.2.2.2.2.2.2.2.2.2.2.1
@[irreducible] noncomputable def α : Type := c0.1
@[irreducible] noncomputable def xs : List α := by with_unfolding_all exact c0.2.1
@[irreducible] noncomputable def V : α → Value → Prop := by with_unfolding_all exact c0.2.2.1
@[irreducible] noncomputable def src : List (Addr × Obj) := c0.2.2.2.1
@[irreducible] noncomputable def news : List (Addr × Obj) := c0.2.2.2.2.1
@[irreducible] noncomputable def J : Nat → List Value → List (Addr × Obj) → Prop := c0.2.2.2.2.2.1
@[irreducible] noncomputable def fp : List Addr := c0.2.2.2.2.2.2.1
@[irreducible] noncomputable def St : Nat → Heap → Prop := c0.2.2.2.2.2.2.2.1
@[irreducible] noncomputable def I : Addr := c0.2.2.2.2.2.2.2.2.1
@[irreducible] noncomputable def hp₂ : Heap := c0.2.2.2.2.2.2.2.2.2.1
@[irreducible] noncomputable def h₁ : Heap := c0.2.2.2.2.2.2.2.2.2.2.1
@[irreducible] noncomputable def H2 : Heap := c0.2.2.2.2.2.2.2.2.2.2.2.1
theorem main : comp_blockI_sb2.1 α xs V src news J fp St I hp₂ h₁ H2 := by
  intro hfr hf hkind hx hRR hRE hsz hj turn done hE Sr hIL hI₀ hsrcI F N hns₁ hDC old hacc hD₀ hC₀ hDL hCL hCI hDI hCsrc hDsrc hCfr off₀ S₁ hst₁
  -- an exception out of an element
  have hEC : ∀ e s', (exc ∧ ∃ ea hE oC m₂ h' tk, e = .ref ea ∧ s' = { s₁ with heap := h', toks := tk } ∧ Fr h₀ L hE m ∧ hE.get? H2.objs.size = some oC ∧ NsObj oC m₂ ∧ ExcAt (env :: outer) hE h' ea) →
      notedBy (model prog w) A (compEnvC scope cl H2.objs.size env) (fun e s' => RR (.ref hp₂.objs.size) H2.objs.size (.error e) s') e s' := by
    rintro e s' ⟨hx, ea, hE', oC, m₂, h', tk, rfl, rfl, FE, hEC, hn, X⟩
    refine ExcAt.note' (s := { s₁ with heap := h', toks := tk }) (hfr hx) hf (by exact hf) X fun h₅ X₅ => ?_
    obtain ⟨B, a0, fl, f1, f2, f3, f4, f5, f6⟩ := X₅
    have hBC : B.get? H2.objs.size = some oC := f5 _ _ hEC (hCfr hx)
    refine hRE _ _ _ _ _ m₂ (hn.ns (f1 _ _ hBC)) fun h₆ hs₆ cenv hcenv => ?_
    have X₆ : ExcAt (env :: outer) (hideAll hE' [H2.objs.size]) h₆ ea := by
      refine ⟨hideAll B [H2.objs.size], a0, fl, fun b o hb => ?_, ?_, ?_, ?_, fun b o hb hnf => ?_, fun b o hb hnd => ?_⟩
      · have hne : b ≠ H2.objs.size := fun q => by rw [q, hideAll_none _ (List.mem_singleton.mpr rfl)] at hb; cases hb
        exact (hs₆.2 b hne).trans (f1 b o (of_hideAll _ hb))
      · cases q : (hideAll B [H2.objs.size]).get? ea with
        | none => rfl
        | some o => rw [of_hideAll _ q] at f2; cases f2
      · have key : ∀ (l : List Env), h₅.FunFrames B l → h₆.FunFrames (hideAll B [H2.objs.size]) l := by
          intro l
          induction l with
          | nil => intro _; trivial
          | cons e l ih =>
            rintro ⟨k1, ⟨L', o', k2, k3, k4, k5⟩, k6⟩
            have hne : L' ≠ H2.objs.size := fun q => by rw [q, hBC] at k3; cases k3
            refine ⟨k1, ⟨L', o', k2, ?_, (hs₆.2 _ hne).trans k4, k5⟩, ih k6⟩
            cases q : (hideAll B [H2.objs.size]).get? L' with
            | none => rfl
            | some o => rw [of_hideAll _ q] at k3; cases k3
        exact key _ f3
      · obtain ⟨oe, vs, T, oT, ts, he, hc, hd, h1, hnT, hTe, hT, hdT, h3⟩ := f4
        have hne : ea ≠ H2.objs.size := fun q => by rw [q, hBC] at f2; cases f2
        have hnT' : T ≠ H2.objs.size := fun q => by rw [q, hBC] at hnT; cases hnT
        refine ⟨oe, vs, T, oT, ts, (hs₆.2 _ hne).trans he, hc, hd, h1, ?_, hTe, (hs₆.2 _ hnT').trans hT, hdT, h3⟩
        cases q : (hideAll B [H2.objs.size]).get? T with
        | none => rfl
        | some o => rw [of_hideAll _ q] at hnT; cases hnT
      · have hne : b ≠ H2.objs.size := fun q => by rw [q, hideAll_none _ (List.mem_singleton.mpr rfl)] at hb; cases hb
        exact hideAll_get _ (f5 b o (of_hideAll _ hb) hnf) (by simpa using hne)
      · have hne : b ≠ H2.objs.size := fun q => by rw [q, hideAll_none _ (List.mem_singleton.mpr rfl)] at hb; cases hb
        obtain ⟨sl, hsl⟩ := f6 b o (of_hideAll _ hb) hnd
        exact ⟨sl, (hs₆.2 b hne).trans hsl⟩
    have FE' : Fr h₀ L (hideAll hE' [H2.objs.size]) m := by
      obtain ⟨oL, es, ep, hL, r⟩ := FE.ns
      refine ⟨⟨oL, es, ep, hideAll_get _ hL (by simpa using Ne.symm hCL), r⟩, fun b o hb => hideAll_get _ (FE.keep b o hb) ?_, FE.above⟩
      intro hm
      rw [List.mem_singleton.mp hm, hC₀] at hb; cases hb
    unfold PySem.passOn
    refine wpAny_bind (X₆.fieldOf (s := { s₁ with heap := h₆, toks := tk }) fun T => ?_)
    rw [if_neg (show ¬ ((Value.ref T == Value.none) = true) from by simp)]
    exact wpAny_bind (ExcAt.flight (s := { s₁ with heap := h₆, toks := tk }) X₆ fun h₇ X₇ => wpAny_throw (hE hx ea _ m h₇ tk FE' X₇))
  have loop : ∀ s₃ : Shared, s₃ = { s₁ with heap := h₁, toks := s₁.toks + ([] : List (Str × Value)).length } →
      codeAny (model prog w) A (.compLoop (.ListComp elt [⟨.Name x px, iter, ifs, 0⟩] scope pos) 0 (.ref I) (.ref hp₂.objs.size) (compEnvC scope cl H2.objs.size env))
        (RR (.ref hp₂.objs.size) H2.objs.size) s₃ := by
    rintro s₃ rfl
    refine codeAny_compLoop_tests
      (fun k s' => ∃ h' tk i ys m' news', s' = { s₁ with heap := h', toks := tk } ∧ i ≤ xs.length ∧ k = xs.length + 1 - i ∧ ys.length ≤ i ∧ St i h' ∧ Fr h₀ L h' m ∧ h'.Ns H2.objs.size m' ∧ News h₀ L h' ((hp₂.objs.size, lst ys) :: news') ∧
        Off3 I H2.objs.size hp₂.objs.size news' ∧ Stand src h' ∧ J i ys news') ?_ (xs.length + 1)
      ⟨h₁, _, 0, [], _, news, rfl, Nat.zero_le _, rfl, Nat.le_refl _, hst₁, F.keeps old, hns₁, fun p hp => ?_, off₀, S₁, hj⟩
    · rintro k s' ⟨h', tk, i, ys, m', news', rfl, hi, rfl, hyl, hst', F', hn', N', off', hS', hJ⟩
      have off3 := off'.mem
      by_cases hlt : i < xs.length
      · refine Sr.walks.item i _ _ _ hlt hst' fun v h₂ tk₂ hPv hst₂ hk₂ => ?_
        obtain ⟨a, ha, hV⟩ := hPv
        refine wpAny_assign_Name (wpAny_storeName_local (lookup_relabel_local hx) (hn'.at' fun o e => hk₂ _ o (by simpa using Ne.symm hCI) e) (fun h₃ hn₃ hs₃ => ?_) (by simp [compEnvC, relabel, hkind]))
        obtain ⟨oI, heI⟩ := Sr.it _ _ hst₂
        have heI₃ : h₃.get? I = some oI := (hs₃.2 I hCI).trans heI
        have S₃ : Stand src h₃ := fun p hp => (hs₃.2 _ (hCsrc p hp)).trans (hk₂ _ _ (by simpa using hsrcI p hp) (hS' p hp))
        have hst₃ := Sr.stay _ _ _ _ hst₂ heI heI₃ S₃
        obtain ⟨oC, heC, hoC⟩ := ns_obj hn₃
        have F₃ : Fr h₀ L h₃ m := (fr_but F' hk₂ hIL hI₀).change hs₃ hCL hC₀
        have N₂ : News h₀ L h₂ ((hp₂.objs.size, lst ys) :: news') := news_but N' hk₂ fun p hp => by
          rcases List.mem_cons.mp hp with rfl | hp
          · exact Ne.symm hDI
          · exact (off3 p hp).1
        have N₃ : News h₀ L h₃ ((I, oI) :: (H2.objs.size, oC) :: (hp₂.objs.size, lst ys) :: news') := fun p hp => by
          rcases List.mem_cons.mp hp with rfl | hp
          · exact ⟨heI₃, Ne.symm hIL, hI₀⟩
          · rcases List.mem_cons.mp hp with rfl | hp
            · exact ⟨heC, hCL, hC₀⟩
            · have z := N₂ p hp
              refine ⟨hs₃.extBut _ _ ?_ z.1, z.2⟩
              rcases List.mem_cons.mp hp with rfl | hp
              · exact hDC
              · exact (off3 p hp).2.1
        refine wpAny_mono (turn i a v ys news' h₃ _ H2.objs.size oC _ ha hV hJ S₃ hoC (by simp) hyl I oI hp₂.objs.size
          (fun y s₄ => ∃ h₄ tk₄ news₄, s₄ = { s₁ with heap := h₄, toks := tk₄ } ∧ Fr h₀ L h₄ m ∧ News h₀ L h₄ ((I, oI) :: (H2.objs.size, oC) :: (hp₂.objs.size, lst ys) :: news₄) ∧ Off3 I H2.objs.size hp₂.objs.size news₄ ∧ Stand src h₄ ∧ J (i + 1) (ys ++ [y]) news₄)
          (fun s₄ => ∃ h₄ tk₄ news₄, s₄ = { s₁ with heap := h₄, toks := tk₄ } ∧ Fr h₀ L h₄ m ∧ News h₀ L h₄ ((I, oI) :: (H2.objs.size, oC) :: (hp₂.objs.size, lst ys) :: news₄) ∧ Off3 I H2.objs.size hp₂.objs.size news₄ ∧ Stand src h₄ ∧ J (i + 1) ys news₄)
          (fun e s' => exc ∧ ∃ ea hE oC m₂ h' tk, e = .ref ea ∧ s' = { s₁ with heap := h', toks := tk } ∧ Fr h₀ L hE m ∧ hE.get? H2.objs.size = some oC ∧ NsObj oC m₂ ∧ ExcAt (env :: outer) hE h' ea)
          F₃ N₃ off' ⟨hCI, hDI, Ne.symm hDC⟩ (fun y news₄ h₄ tk₄ F₄ N₄ off₄ S₄ J₄ => ⟨h₄, tk₄, news₄, rfl, F₄, N₄, off₄, S₄, J₄⟩)
          (fun news₄ h₄ tk₄ F₄ N₄ off₄ S₄ J₄ => ⟨h₄, tk₄, news₄, rfl, F₄, N₄, off₄, S₄, J₄⟩)
          (fun hx ea hE h' tk' FE hEC X => ⟨hx, ea, hE, oC, _, h', tk', rfl, rfl, FE, hEC, hoC, X⟩)) (fun ok s₄ h₄ => ?_) hEC
        cases ok with
        | false =>
          simp only [Bool.false_eq_true, if_false] at h₄ ⊢
          obtain ⟨h₄, tk₄, news₄, rfl, F₄, N₄, off₄, hS₄, R₄⟩ := h₄
          have zI := (N₄ (I, oI) List.mem_cons_self).1
          have zC := (N₄ (H2.objs.size, oC) (List.mem_cons_of_mem _ List.mem_cons_self)).1
          exact ⟨xs.length + 1 - (i + 1), by omega, h₄, tk₄, i + 1, ys, _, news₄, rfl, hlt, rfl, by omega, Sr.stay _ _ _ _ hst₃ heI₃ zI hS₄, F₄, hoC.ns zC, fun p hp => N₄ p (List.mem_cons_of_mem _ (List.mem_cons_of_mem _ hp)), off₄, hS₄, R₄⟩
        | true =>
        simp only [if_true] at h₄ ⊢
        refine wpAny_mono h₄ (fun y s₄ h₄ => ?_) hEC
        obtain ⟨h₄, tk₄, news₄, rfl, F₄, N₄, off₄, hS₄, R₄⟩ := h₄
        have zI := (N₄ (I, oI) List.mem_cons_self).1
        have zC := (N₄ (H2.objs.size, oC) (List.mem_cons_of_mem _ List.mem_cons_self)).1
        have zD := (N₄ (hp₂.objs.size, lst ys) (List.mem_cons_of_mem _ (List.mem_cons_of_mem _ List.mem_cons_self))).1
        have N₄' : News h₀ L h₄ news₄ := fun p hp => N₄ p (List.mem_cons_of_mem _ (List.mem_cons_of_mem _ (List.mem_cons_of_mem _ hp)))
        have hst₄ : St (i + 1) h₄ := Sr.stay _ _ _ _ hst₃ heI₃ zI hS₄
        refine append_at (hsz := by show ys.toArray.size ≤ sizeLine; rw [List.size_toArray]; omega) zD fun h₅ hs₅ hD₅ => ?_
        have off4 := off₄.mem
        have S₅ : Stand src h₅ := fun p hp => (hs₅.2 _ (hDsrc p hp)).trans (hS₄ p hp)
        refine ⟨xs.length + 1 - (i + 1), by omega, h₅, tk₄, i + 1, ys ++ [y], _, news₄, rfl, hlt, rfl, by rw [List.length_append, List.length_singleton]; omega, Sr.stay _ _ _ _ hst₄ zI ((hs₅.2 _ hDI).trans zI) S₅, F₄.change hs₅ hDL hD₀,
          (hoC.ns zC).sameBut hs₅ (Ne.symm hDC), fun p hp => ?_, off₄, S₅, R₄⟩
        rcases List.mem_cons.mp hp with rfl | hp
        · exact ⟨hD₅.trans (congrArg some (lst_snoc ys y)), hDL, hD₀⟩
        · exact ⟨hs₅.extBut _ _ (off4 p hp).2.2 (N₄' p hp).1, (N₄' p hp).2⟩
      · obtain rfl : i = xs.length := Nat.le_antisymm hi (Nat.not_lt.mp hlt)
        refine Sr.walks.done _ _ _ hst' fun h₂ tk₂ hk₂ => ?_
        exact hRR _ _ h₂ tk₂ _ ys news' (fr_but F' hk₂ hIL hI₀) (news_but N' hk₂ fun p hp => by
          rcases List.mem_cons.mp hp with rfl | hp
          · exact Ne.symm hDI
          · exact (off3 p hp).1) off'.one (hn'.at' fun o e => hk₂ _ o (by simpa using Ne.symm hCI) e) hC₀ hD₀ hCL hDL (Ne.symm hDC) (fun p hp => (off3 p hp).2.1) (done ys news' hJ hyl)
    · rcases List.mem_cons.mp hp with rfl | hp
      · exact ⟨hacc, hDL, hD₀⟩
      · exact ⟨old _ _ (N p hp).1, (N p hp).2⟩
  exact codeAny_compStart_list (loop _ rfl) (Sr.walks.self 0 _ _ _ hst₁ (loop _ rfl))
theorem all : ∀ a0 a1 a2 a3 a4 a5 a6 a7 a8 a9 a10 a11, comp_blockI_sb2.1 a0 a1 a2 a3 a4 a5 a6 a7 a8 a9 a10 a11 := by
  have q1 : (fun q : (α : Type) × (List α) × (α → Value → Prop) × (List (Addr × Obj)) × (List (Addr × Obj)) × (Nat → List Value → List (Addr × Obj) → Prop) × (List Addr) × (Nat → Heap → Prop) × (Addr) × (Heap) × (Heap) × (Heap) × Unit => comp_blockI_sb2.1 q.1 q.2.1 q.2.2.1 q.2.2.2.1 q.2.2.2.2.1 q.2.2.2.2.2.1 q.2.2.2.2.2.2.1 q.2.2.2.2.2.2.2.1 q.2.2.2.2.2.2.2.2.1 q.2.2.2.2.2.2.2.2.2.1 q.2.2.2.2.2.2.2.2.2.2.1 q.2.2.2.2.2.2.2.2.2.2.2.1) (pick ⟨⟨PUnit, default, default, default, default, default, default, default, default, default, default, default, ()⟩⟩ fun q => comp_blockI_sb2.1 q.1 q.2.1 q.2.2.1 q.2.2.2.1 q.2.2.2.2.1 q.2.2.2.2.2.1 q.2.2.2.2.2.2.1 q.2.2.2.2.2.2.2.1 q.2.2.2.2.2.2.2.2.1 q.2.2.2.2.2.2.2.2.2.1 q.2.2.2.2.2.2.2.2.2.2.1 q.2.2.2.2.2.2.2.2.2.2.2.1) := by with_unfolding_all exact main
  exact fun a0 a1 a2 a3 a4 a5 a6 a7 a8 a9 a10 a11 => pick_spec (P := fun q : (α : Type) × (List α) × (α → Value → Prop) × (List (Addr × Obj)) × (List (Addr × Obj)) × (Nat → List Value → List (Addr × Obj) → Prop) × (List Addr) × (Nat → Heap → Prop) × (Addr) × (Heap) × (Heap) × (Heap) × Unit => comp_blockI_sb2.1 q.1 q.2.1 q.2.2.1 q.2.2.2.1 q.2.2.2.2.1 q.2.2.2.2.2.1 q.2.2.2.2.2.2.1 q.2.2.2.2.2.2.2.1 q.2.2.2.2.2.2.2.2.1 q.2.2.2.2.2.2.2.2.2.1 q.2.2.2.2.2.2.2.2.2.2.1 q.2.2.2.2.2.2.2.2.2.2.2.1) (ne := ⟨⟨PUnit, default, default, default, default, default, default, default, default, default, default, default, ()⟩⟩) q1 ⟨a0, a1, a2, a3, a4, a5, a6, a7, a8, a9, a10, a11, ()⟩
end go
theorem main : comp_blockI_sb1.1 prog w A E h₀ L m env outer exc elt ifs x scope cl iter px pos s₁ Fin RR xv := comp_blockI_sb2.2 go.all
theorem all : ∀ a0 a1 a2 a3 a4 a5 a6 a7 a8 a9 a10 a11 a12 a13 a14 a15 a16 a17 a18 a19 a20 a21, comp_blockI_sb1.1 a0 a1 a2 a3 a4 a5 a6 a7 a8 a9 a10 a11 a12 a13 a14 a15 a16 a17 a18 a19 a20 a21 := by
  have q1 : (fun q : (Program) × (World) × (Around) × (Value → Shared → Prop) × (Heap) × (Addr) × (Str → Option Value) × (Env) × (List Env) × (Prop) × (PySem.Expr) × (List PySem.Expr) × (Str) × (Scope) × (List (Str × Addr)) × (PySem.Expr) × (Pos) × (Pos) × (Shared) × (Shared → List Value → List (Addr × Obj) → Prop) × (Value → Addr → Result → Shared → Prop) × (Value) × Unit => comp_blockI_sb1.1 q.1 q.2.1 q.2.2.1 q.2.2.2.1 q.2.2.2.2.1 q.2.2.2.2.2.1 q.2.2.2.2.2.2.1 q.2.2.2.2.2.2.2.1 q.2.2.2.2.2.2.2.2.1 q.2.2.2.2.2.2.2.2.2.1 q.2.2.2.2.2.2.2.2.2.2.1 q.2.2.2.2.2.2.2.2.2.2.2.1 q.2.2.2.2.2.2.2.2.2.2.2.2.1 q.2.2.2.2.2.2.2.2.2.2.2.2.2.1 q.2.2.2.2.2.2.2.2.2.2.2.2.2.2.1 q.2.2.2.2.2.2.2.2.2.2.2.2.2.2.2.1 q.2.2.2.2.2.2.2.2.2.2.2.2.2.2.2.2.1 q.2.2.2.2.2.2.2.2.2.2.2.2.2.2.2.2.2.1 q.2.2.2.2.2.2.2.2.2.2.2.2.2.2.2.2.2.2.1 q.2.2.2.2.2.2.2.2.2.2.2.2.2.2.2.2.2.2.2.1 q.2.2.2.2.2.2.2.2.2.2.2.2.2.2.2.2.2.2.2.2.1 q.2.2.2.2.2.2.2.2.2.2.2.2.2.2.2.2.2.2.2.2.2.1) (pick ⟨⟨default, dW, dA, default, default, default, default, default, default, default, default, default, default, default, default, default, default, default, dS, default, default, default, ()⟩⟩ fun q => comp_blockI_sb1.1 q.1 q.2.1 q.2.2.1 q.2.2.2.1 q.2.2.2.2.1 q.2.2.2.2.2.1 q.2.2.2.2.2.2.1 q.2.2.2.2.2.2.2.1 q.2.2.2.2.2.2.2.2.1 q.2.2.2.2.2.2.2.2.2.1 q.2.2.2.2.2.2.2.2.2.2.1 q.2.2.2.2.2.2.2.2.2.2.2.1 q.2.2.2.2.2.2.2.2.2.2.2.2.1 q.2.2.2.2.2.2.2.2.2.2.2.2.2.1 q.2.2.2.2.2.2.2.2.2.2.2.2.2.2.1 q.2.2.2.2.2.2.2.2.2.2.2.2.2.2.2.1 q.2.2.2.2.2.2.2.2.2.2.2.2.2.2.2.2.1 q.2.2.2.2.2.2.2.2.2.2.2.2.2.2.2.2.2.1 q.2.2.2.2.2.2.2.2.2.2.2.2.2.2.2.2.2.2.1 q.2.2.2.2.2.2.2.2.2.2.2.2.2.2.2.2.2.2.2.1 q.2.2.2.2.2.2.2.2.2.2.2.2.2.2.2.2.2.2.2.2.1 q.2.2.2.2.2.2.2.2.2.2.2.2.2.2.2.2.2.2.2.2.2.1) := by with_unfolding_all exact main
  exact fun a0 a1 a2 a3 a4 a5 a6 a7 a8 a9 a10 a11 a12 a13 a14 a15 a16 a17 a18 a19 a20 a21 => pick_spec (P := fun q : (Program) × (World) × (Around) × (Value → Shared → Prop) × (Heap) × (Addr) × (Str → Option Value) × (Env) × (List Env) × (Prop) × (PySem.Expr) × (List PySem.Expr) × (Str) × (Scope) × (List (Str × Addr)) × (PySem.Expr) × (Pos) × (Pos) × (Shared) × (Shared → List Value → List (Addr × Obj) → Prop) × (Value → Addr → Result → Shared → Prop) × (Value) × Unit => comp_blockI_sb1.1 q.1 q.2.1 q.2.2.1 q.2.2.2.1 q.2.2.2.2.1 q.2.2.2.2.2.1 q.2.2.2.2.2.2.1 q.2.2.2.2.2.2.2.1 q.2.2.2.2.2.2.2.2.1 q.2.2.2.2.2.2.2.2.2.1 q.2.2.2.2.2.2.2.2.2.2.1 q.2.2.2.2.2.2.2.2.2.2.2.1 q.2.2.2.2.2.2.2.2.2.2.2.2.1 q.2.2.2.2.2.2.2.2.2.2.2.2.2.1 q.2.2.2.2.2.2.2.2.2.2.2.2.2.2.1 q.2.2.2.2.2.2.2.2.2.2.2.2.2.2.2.1 q.2.2.2.2.2.2.2.2.2.2.2.2.2.2.2.2.1 q.2.2.2.2.2.2.2.2.2.2.2.2.2.2.2.2.2.1 q.2.2.2.2.2.2.2.2.2.2.2.2.2.2.2.2.2.2.1 q.2.2.2.2.2.2.2.2.2.2.2.2.2.2.2.2.2.2.2.1 q.2.2.2.2.2.2.2.2.2.2.2.2.2.2.2.2.2.2.2.2.1 q.2.2.2.2.2.2.2.2.2.2.2.2.2.2.2.2.2.2.2.2.2.1) (ne := ⟨⟨default, dW, dA, default, default, default, default, default, default, default, default, default, default, default, default, default, default, default, dS, default, default, default, ()⟩⟩) q1 ⟨a0, a1, a2, a3, a4, a5, a6, a7, a8, a9, a10, a11, a12, a13, a14, a15, a16, a17, a18, a19, a20, a21, ()⟩
end comp_blockI_e0
end
section
variable {prog : Program} {w : World} {A : Around} {E : Value → Shared → Prop} {s : Shared} {h₀ : Heap} {L : Addr} {m : Str → Option Value} {env : Env} {outer : List Env} {exc : Prop} {elt : PySem.Expr} {ifs : List PySem.Expr} {x : Str} {scope : Scope} {cl : List (Str × Addr)}
theorem comp_blockI {iter : PySem.Expr} {px : Pos} {pos : Pos} {xv : Value} {s₁ : Shared} {Fin : Shared → List Value → List (Addr × Obj) → Prop} {RR : Value → Addr → Result → Shared → Prop}
    (hfr : exc → A.frames = some (env :: outer)) (hf : env.frame = some L) (hout : exc → ∀ b ∈ outer.filterMap (·.frame), ∃ o, h₀.get? b = some o)
    (hcell : ∀ y ∈ scope.names, y.2 ≠ .cell) (hkind : scope.kind = .function) (hx : scope.names.lookup x = some .local)
    (G : CompGoI prog w A h₀ L m env outer elt ifs x scope cl Fin E exc xv s₁)
    (hRR : ∀ D C h tk m' ys news', Fr h₀ L h m → News h₀ L h ((D, lst ys) :: news') → Off1 D news' → h.Ns C m' → h₀.get? C = none → h₀.get? D = none → C ≠ L → D ≠ L → C ≠ D → (∀ p ∈ news', p.1 ≠ C) → Fin s₁ ys news' → RR (.ref D) C (.ok .next) { s₁ with heap := h, toks := tk })
    (hRE : ∀ D C ea h' tk m', h'.Ns C m' → (∀ h'', Heap.SameBut C h' h'' → ∀ cenv : Env, cenv.locals = C → wpAny (model prog w) A (PySem.passOn "comprehension.variables-let-go" (.ref ea) cenv : Sem Value) (fun _ _ => False) E { s₁ with heap := h'', toks := tk }) → RR (.ref D) C (.error (.ref ea)) { s₁ with heap := h', toks := tk }) :
    wpAny (model prog w) A (pyIter xv) (fun it s₂ => wpAny (model prog w) A (newList []) (fun acc s₃ => wpAny (model prog w) A (newFunctionEnv scope env.globals cl [] env.qual none .none (some env)) (fun cenv s₄ =>
      codeAny (model prog w) A (.compStart (.ListComp elt [⟨.Name x px, iter, ifs, 0⟩] scope pos) 0 it acc { cenv with scope := relabel scope env }) (RR acc cenv.locals) s₄) E s₃) E s₂) E s₁ :=
  comp_blockI_sb1.2 comp_blockI_e0.all prog w A E h₀ L m env outer exc elt ifs x scope cl iter px pos xv s₁ Fin RR hfr hf hout hcell hkind hx G hRR hRE
end
section
variable {prog : Program} {w : World} {A : Around} {E : Value → Shared → Prop} {s : Shared} {h₀ : Heap} {L : Addr} {m : Str → Option Value} {env : Env} {outer : List Env} {exc : Prop} {elt : PySem.Expr} {x : Str} {scope : Scope} {cl : List (Str × Addr)}

/-- the element of a comprehension, evaluated once (the iterator I, the names C, the list so far D) -/
noncomputable def CTurn (prog : Program) (w : World) (A : Around) (h₀ : Heap) (L : Addr) (m : Str → Option Value) (env : Env) (outer : List Env) (elt : PySem.Expr) (scope : Scope) (cl : List (Str × Addr)) (exc : Prop) (s₁ : Shared) (src : List (Addr × Obj)) (C : Addr) (oC : Obj)
    (Jn : Value → List (Addr × Obj) → Prop) (ys : List Value) (news : List (Addr × Obj)) (h : Heap) (tk : Nat) : Prop :=
  ∀ (I : Addr) (oI : Obj) (D : Addr) (Q' E' : Value → Shared → Prop), Fr h₀ L h m → News h₀ L h ((I, oI) :: (C, oC) :: (D, lst ys) :: news) → Off3 I C D news → ((@Ne Nat I C) ∧ (@Ne Nat I D) ∧ (@Ne Nat C D)) →
    (∀ y news' h' tk', Fr h₀ L h' m → News h₀ L h' ((I, oI) :: (C, oC) :: (D, lst ys) :: news') → Off3 I C D news' → Stand src h' → Jn y news' → Q' y { s₁ with heap := h', toks := tk' }) →
    (exc → ∀ ea hE h' tk', Fr h₀ L hE m → hE.get? C = some oC → ExcAt (env :: outer) hE h' ea → E' (.ref ea) { s₁ with heap := h', toks := tk' }) →
    wpAny (model prog w) A (eval elt (compEnvC scope cl C env)) Q' E' { s₁ with heap := h, toks := tk }

noncomputable def CompGo (prog : Program) (w : World) (A : Around) (h₀ : Heap) (L : Addr) (m : Str → Option Value) (env : Env) (outer : List Env) (elt : PySem.Expr) (x : Str) (scope : Scope) (cl : List (Str × Addr)) (Fin : Shared → List Value → List (Addr × Obj) → Prop) (E : Value → Shared → Prop) (exc : Prop) (xv : Value) (s₁ : Shared) : Prop :=
  ∃ (α : Type) (xs : List α) (V : α → Value → Prop) (src : List (Addr × Obj)) (news : List (Addr × Obj)) (J : Nat → List Value → List (Addr × Obj) → Prop),
    IterOf prog w A xv s₁.heap xs V src ∧ Fr h₀ L s₁.heap m ∧ News h₀ L s₁.heap news ∧ xs.length ≤ sizeLine ∧ J 0 [] news ∧
    (∀ i a v ys news₁ h tk C oC m₂, xs[i]? = some a → V a v → J i ys news₁ → Stand src h → NsObj oC m₂ → m₂ x = some v → ys.length = i → CTurn prog w A h₀ L m env outer elt scope cl exc s₁ src C oC (fun y => J (i + 1) (ys ++ [y])) ys news₁ h tk) ∧
    (∀ ys news', J xs.length ys news' → ys.length = xs.length → Fin s₁ ys news') ∧ (exc → EOk (env :: outer) h₀ L s₁ E)

theorem comp_blockQ {iter : PySem.Expr} {px : Pos} {pos : Pos} {xv : Value} {s₁ : Shared} {Fin : Shared → List Value → List (Addr × Obj) → Prop} {RR : Value → Addr → Result → Shared → Prop}
    (hfr : exc → A.frames = some (env :: outer)) (hf : env.frame = some L) (hout : exc → ∀ b ∈ outer.filterMap (·.frame), ∃ o, h₀.get? b = some o)
    (hcell : ∀ y ∈ scope.names, y.2 ≠ .cell) (hkind : scope.kind = .function) (hx : scope.names.lookup x = some .local)
    (G : CompGo prog w A h₀ L m env outer elt x scope cl Fin E exc xv s₁)
    (hRR : ∀ D C h tk m' ys news', Fr h₀ L h m → News h₀ L h ((D, lst ys) :: news') → Off1 D news' → h.Ns C m' → h₀.get? C = none → h₀.get? D = none → C ≠ L → D ≠ L → C ≠ D → (∀ p ∈ news', p.1 ≠ C) → Fin s₁ ys news' → RR (.ref D) C (.ok .next) { s₁ with heap := h, toks := tk })
    (hRE : ∀ D C ea h' tk m', h'.Ns C m' → (∀ h'', Heap.SameBut C h' h'' → ∀ cenv : Env, cenv.locals = C → wpAny (model prog w) A (PySem.passOn "comprehension.variables-let-go" (.ref ea) cenv : Sem Value) (fun _ _ => False) E { s₁ with heap := h'', toks := tk }) → RR (.ref D) C (.error (.ref ea)) { s₁ with heap := h', toks := tk }) :
    wpAny (model prog w) A (pyIter xv) (fun it s₂ => wpAny (model prog w) A (newList []) (fun acc s₃ => wpAny (model prog w) A (newFunctionEnv scope env.globals cl [] env.qual none .none (some env)) (fun cenv s₄ =>
      codeAny (model prog w) A (.compStart (.ListComp elt [⟨.Name x px, iter, [], 0⟩] scope pos) 0 it acc { cenv with scope := relabel scope env }) (RR acc cenv.locals) s₄) E s₃) E s₂) E s₁ := by
  obtain ⟨α, xs, V, src, news, J, hi, F₀, N₀, hsz, hj, turn, done, hE⟩ := G
  refine comp_blockI (ifs := []) hfr hf hout hcell hkind hx ⟨α, xs, V, src, news, fun i ys nw => J i ys nw ∧ ys.length = i, hi, F₀, N₀, hsz, ⟨hj, rfl⟩, fun i a v ys news₁ h tk C oC m₂ ha hV hJ S hC hm _ => ?_, fun ys news' hJ _ => done ys news' hJ.1 hJ.2, hE⟩ hRR hRE
  intro I oI D Q' Qs E' F N off ne hq _ hexc
  show wpAny (model prog w) A (pure true) _ _ _
  refine wpAny_pure ?_
  rw [if_pos rfl]
  exact turn i a v ys news₁ h tk C oC m₂ ha hV hJ.1 S hC hm hJ.2 I oI D Q' E' F N off ne (fun y news' h' tk' F' N' o' S' hJ' => hq y news' h' tk' F' N' o' S' ⟨hJ', by rw [List.length_append, hJ.2]; rfl⟩) hexc
theorem comp_block {iter : PySem.Expr} {px : Pos} {pos : Pos} {xv : Value} {s₁ : Shared} {Fin : Shared → List Value → List (Addr × Obj) → Prop} {RR : Value → Addr → Result → Shared → Prop}
    (hfr : A.frames = some (env :: outer)) (hf : env.frame = some L) (hout : exc → ∀ b ∈ outer.filterMap (·.frame), ∃ o, h₀.get? b = some o)
    (hcell : ∀ y ∈ scope.names, y.2 ≠ .cell) (hkind : scope.kind = .function) (hx : scope.names.lookup x = some .local)
    (G : CompGo prog w A h₀ L m env outer elt x scope cl Fin E exc xv s₁)
    (hRR : ∀ D C h tk m' ys news', Fr h₀ L h m → News h₀ L h ((D, lst ys) :: news') → Off1 D news' → h.Ns C m' → h₀.get? C = none → h₀.get? D = none → C ≠ L → D ≠ L → C ≠ D → (∀ p ∈ news', p.1 ≠ C) → Fin s₁ ys news' → RR (.ref D) C (.ok .next) { s₁ with heap := h, toks := tk })
    (hRE : ∀ D C ea h' tk m', h'.Ns C m' → (∀ h'', Heap.SameBut C h' h'' → ∀ cenv : Env, cenv.locals = C → wpAny (model prog w) A (PySem.passOn "comprehension.variables-let-go" (.ref ea) cenv : Sem Value) (fun _ _ => False) E { s₁ with heap := h'', toks := tk }) → RR (.ref D) C (.error (.ref ea)) { s₁ with heap := h', toks := tk }) :
    wpAny (model prog w) A (pyIter xv) (fun it s₂ => wpAny (model prog w) A (newList []) (fun acc s₃ => wpAny (model prog w) A (newFunctionEnv scope env.globals cl [] env.qual none .none (some env)) (fun cenv s₄ =>
      codeAny (model prog w) A (.compStart (.ListComp elt [⟨.Name x px, iter, [], 0⟩] scope pos) 0 it acc { cenv with scope := relabel scope env }) (RR acc cenv.locals) s₄) E s₃) E s₂) E s₁ :=
  comp_blockQ (fun _ => hfr) hf hout hcell hkind hx G hRR hRE
end
section
variable {prog : Program} {w : World} {A : Around} {E : Value → Shared → Prop} {s : Shared} {h₀ : Heap} {L : Addr} {m : Str → Option Value} {env : Env} {outer : List Env} {exc : Prop} {elt iter : PySem.Expr} {x y : Str} {px py pos spos : Pos} {scope : Scope} {cl : List (Str × Addr)}

noncomputable def FinX (h₀ : Heap) (L : Addr) (m : Str → Option Value) (Q : Value → Shared → Prop) (s₁ : Shared) (ys : List Value) (news : List (Addr × Obj)) : Prop :=
  ∀ D h tk, Fr h₀ L h m → News h₀ L h ((D, lst ys) :: news) → Off1 D news → Q (.ref D) { s₁ with heap := h, toks := tk }
noncomputable def FinY (h₀ : Heap) (L : Addr) (m : Str → Option Value) (y : Str) (Q : Flow → Shared → Prop) (s₁ : Shared) (ys : List Value) (news : List (Addr × Obj)) : Prop :=
  ∀ D h tk, Fr h₀ L h (upd y (some (.ref D)) m) → News h₀ L h ((D, lst ys) :: news) → Off1 D news → Q .next { s₁ with heap := h, toks := tk }

theorem comp_expr {Q : Value → Shared → Prop} (_F₀ : Fr h₀ L s.heap m) (hfr : A.frames = some (env :: outer)) (hf : env.frame = some L) (hout : exc → ∀ b ∈ outer.filterMap (·.frame), ∃ o, h₀.get? b = some o)
    (hclos : closureFor scope env = pure cl) (hcell : ∀ y ∈ scope.names, y.2 ≠ .cell) (hkind : scope.kind = .function)
    (hnames : ∀ y ∈ scope.names, y.2 = .local → scope.names.lookup y.1 = some .local) (hx : scope.names.lookup x = some .local)
    (h : wpAny (model prog w) A (eval iter env) (CompGo prog w A h₀ L m env outer elt x scope cl (FinX h₀ L m Q) E exc) E s)
    (hs : ∀ x, foldedSetIterable iter env x = pure x := by intro _; rfl) :
    wpAny (model prog w) A (eval (.ListComp elt [⟨.Name x px, iter, [], 0⟩] scope pos) env) Q E s := by
  rw [eval_ListComp]
  refine wpAny_comprehension_free (use := none) rfl hs hclos hkind hnames (wpAny_mono h (fun xv s₁ h₁ => ?_) fun _ _ e => e)
  refine comp_block (RR := compPost (model prog w) A E none Q) hfr hf hout hcell hkind hx h₁ ?_ ?_
  · intro D C h tk m' ys news' F' N' o1 hn hC₀ hD₀ hCL hDL hCD offC fin
    refine ⟨m', hn, fun h'' hs'' => fin D h'' tk (F'.change hs'' hCL hC₀) (fun p hp => ?_) o1⟩
    refine ⟨hs''.extBut _ _ ?_ (N' p hp).1, (N' p hp).2⟩
    rcases List.mem_cons.mp hp with rfl | hp
    · exact Ne.symm hCD
    · exact offC p hp
  · intro D C ea h' tk m' hn hp
    exact ⟨m', hn, hp⟩

theorem comp_assign {Q : Flow → Shared → Prop} (_F₀ : Fr h₀ L s.heap m) (hfr : A.frames = some (env :: outer)) (hf : env.frame = some L) (hLe : env.locals = L) (hout : exc → ∀ b ∈ outer.filterMap (·.frame), ∃ o, h₀.get? b = some o)
    (hsw : swapsWith (.ListComp elt [⟨.Name x px, iter, [], 0⟩] scope pos) (some (.Name y py)) spos.line env = pure true)
    (hclos : closureFor scope env = pure cl) (hcell : ∀ z ∈ scope.names, z.2 ≠ .cell) (hkind : scope.kind = .function)
    (hnames : ∀ z ∈ scope.names, z.2 = .local → scope.names.lookup z.1 = some .local) (hx : scope.names.lookup x = some .local)
    (hy : env.kindOf y = some .local) (hp : (env.scope.kind == .class || (env.scope.kind == .module && env.locals != env.globals)) = false)
    (h : wpAny (model prog w) A (eval iter env) (CompGo prog w A h₀ L m env outer elt x scope cl (FinY h₀ L m y Q) E exc) E s)
    (hs : ∀ x, foldedSetIterable iter env x = pure x := by intro _; rfl) :
    wpAny (model prog w) A (exec (.Assign [.Name y py] (.ListComp elt [⟨.Name x px, iter, [], 0⟩] scope pos) spos) env) Q E s := by
  subst hLe
  rw [exec_Assign_Name_used _ _ _ _ hsw]
  refine wpAny_bind (wpAny_standAt (wpAny_bind ?_))
  show wpAny _ A (do let _ ← comprehension (.ListComp elt [⟨.Name x px, iter, [], 0⟩] scope pos) scope env _ (newList []) false (eval iter env) (some (assign (.Name y py) env))) _ _ s
  refine wpAny_bind (wpAny_mono (wpAny_comprehension_free (use := some (assign (.Name y py) env)) (Q := fun _ s' => Q .next s') rfl hs hclos hkind hnames
    (wpAny_mono h (fun xv s₁ h₁ => ?_) fun _ _ e => e)) (fun _ s' hq => wpAny_pure (wpAny_pure hq)) fun _ _ e => e)
  refine comp_block (RR := compPost (model prog w) A E (some (assign (.Name y py) env)) (fun _ s' => Q .next s')) hfr hf hout hcell hkind hx h₁ ?_ ?_
  · intro D C h' tk m' ys news' F' N' o1 hn hC₀ hD₀ hCL hDL hCD offC fin
    show wpAny _ A (assign (.Name y py) env (.ref D)) _ _ _
    refine wpAny_assign_Name (wpAny_storeName_local hy F'.ns (fun h₂ hn₂ hs₂ => ?_) hp)
    have hL₀ : h₀.get? env.locals = none := Heap.get?_none_of_le F'.above
    have F₂ : Fr h₀ env.locals h₂ (fun z => if z = y then some (.ref D) else m z) := ⟨hn₂, fun b o e => hs₂.extBut b o (fun q => by rw [q, hL₀] at e; cases e) (F'.keep b o e), F'.above⟩
    refine ⟨m', hn.sameBut hs₂ hCL, fun h'' hs'' => fin D h'' _ (F₂.change hs'' hCL hC₀) (fun p hp => ?_) o1⟩
    have z : h₂.get? p.1 = some p.2 := hs₂.extBut _ _ (N' p hp).2.1 (N' p hp).1
    refine ⟨hs''.extBut _ _ ?_ z, (N' p hp).2⟩
    rcases List.mem_cons.mp hp with rfl | hp
    · exact Ne.symm hCD
    · exact offC p hp
  · intro D C ea h' tk m' hn hp
    exact ⟨m', hn, hp⟩
end
end Mine
end
section
open PySem PySem.W PyProof.Rows PySem.Calls
open PyProof.Rows.LCg (lst Off3 Off1 NsObj ns_obj lst_snoc fr_but news_but)
namespace Mine
set_option maxRecDepth 100000

/-- item by item -/
noncomputable def Rel2 {α : Type} (G : α → Value → Prop) : List α → List Value → Prop
  | [], [] => True
  | a :: l, v :: vs => G a v ∧ Rel2 G l vs
  | _, _ => False
theorem Rel2.snoc {α : Type} {G : α → Value → Prop} {a : α} {v : Value} (h : G a v) : ∀ {l : List α} {vs : List Value}, Rel2 G l vs → Rel2 G (l ++ [a]) (vs ++ [v])
  | [], [], _ => ⟨h, trivial⟩
  | _ :: _, _ :: _, x => ⟨x.1, Rel2.snoc h x.2⟩
theorem Rel2.length {α : Type} {G : α → Value → Prop} : ∀ {l : List α} {vs : List Value}, Rel2 G l vs → vs.length = l.length
  | [], [], _ => rfl
  | _ :: _, _ :: _, x => by simp [Rel2.length x.2]
theorem Rel2.mono {α : Type} {G G' : α → Value → Prop} (h : ∀ a v, G a v → G' a v) : ∀ {l : List α} {vs : List Value}, Rel2 G l vs → Rel2 G' l vs
  | [], [], _ => trivial
  | _ :: _, _ :: _, x => ⟨h _ _ x.1, Rel2.mono h x.2⟩
theorem Rel2.get {α : Type} {G : α → Value → Prop} : ∀ {l : List α} {vs : List Value} {i : Nat} {v : Value}, Rel2 G l vs → vs[i]? = some v → ∃ a, l[i]? = some a ∧ G a v := by
  intro l
  induction l with
  | nil =>
    intro vs i v x e
    cases vs with
    | nil => cases e
    | cons _ _ => exact False.elim x
  | cons a l ih =>
    intro vs i w x e
    cases vs with
    | nil => exact False.elim x
    | cons v vs =>
      cases i with
      | zero => cases e; exact ⟨a, rfl, x.1⟩
      | succ i => exact ih (i := i) x.2 e

theorem news_weak {h₀ h : Heap} {L : Addr} {l news : List (Addr × Obj)} (N : News h₀ L h news) (hs : ∀ p ∈ l, p ∈ news) : News h₀ L h l := fun p hp => N p (hs p hp)

section
variable {prog : Program} {w : World} {A : Around} {E : Value → Shared → Prop} {s : Shared} {h₀ : Heap} {L : Addr} {m : Str → Option Value} {env : Env} {outer : List Env} {exc : Prop} {elt : PySem.Expr} {x : Str} {scope : Scope} {cl : List (Str × Addr)}

/-- an element that leaves the ledger as it is -/
noncomputable def QTurn (prog : Program) (w : World) (A : Around) (h₀ : Heap) (L : Addr) (m : Str → Option Value) (env : Env) (outer : List Env) (elt : PySem.Expr) (scope : Scope) (cl : List (Str × Addr)) (exc : Prop) (s₁ : Shared) (news : List (Addr × Obj)) (C : Addr) (oC : Obj) (G : Value → Prop) : Prop :=
  ∀ (I : Addr) (oI : Obj) (D : Addr) (ys : List Value) (h : Heap) (tk : Nat) (Q' E' : Value → Shared → Prop), Fr h₀ L h m → News h₀ L h ((I, oI) :: (C, oC) :: (D, lst ys) :: news) → Off3 I C D news → ((@Ne Nat I C) ∧ (@Ne Nat I D) ∧ (@Ne Nat C D)) →
    (∀ y h' tk', Fr h₀ L h' m → News h₀ L h' ((I, oI) :: (C, oC) :: (D, lst ys) :: news) → G y → Q' y { s₁ with heap := h', toks := tk' }) →
    (exc → ∀ ea hE h' tk', Fr h₀ L hE m → hE.get? C = some oC → ExcAt (env :: outer) hE h' ea → E' (.ref ea) { s₁ with heap := h', toks := tk' }) →
    wpAny (model prog w) A (eval elt (compEnvC scope cl C env)) Q' E' { s₁ with heap := h, toks := tk }

theorem CompGo.rel {α : Type} {xs : List α} {V : α → Value → Prop} {src news : List (Addr × Obj)} {Fin : Shared → List Value → List (Addr × Obj) → Prop} {xv : Value} {s₁ : Shared} (G : α → Value → Prop)
    (hi : IterOf prog w A xv s₁.heap xs V src) (F : Fr h₀ L s₁.heap m) (N : News h₀ L s₁.heap news) (hsrc : ∀ p ∈ src, h₀.get? p.1 = some p.2 ∨ p ∈ news) (hsz : xs.length ≤ sizeLine)
    (turn : ∀ a v C oC m₂, a ∈ xs → V a v → NsObj oC m₂ → m₂ x = some v → QTurn prog w A h₀ L m env outer elt scope cl exc s₁ news C oC (G a))
    (done : ∀ ys, Rel2 G xs ys → Fin s₁ ys news) (hE : exc → EOk (env :: outer) h₀ L s₁ E) :
    CompGo prog w A h₀ L m env outer elt x scope cl Fin E exc xv s₁ := by
  refine ⟨α, xs, V, src, news, fun i ys nw => nw = news ∧ Rel2 G (xs.take i) ys, hi, F, N, hsz, ⟨rfl, trivial⟩, ?_, fun ys news' hj _ => ?_, hE⟩
  · rintro i a v ys news₁ h tk C oC m₂ ha hV ⟨rfl, hr⟩ hS hC hx _ I oI D Q' E' F' N' off ne hret hexc
    refine turn a v C oC m₂ (List.mem_of_getElem? ha) hV hC hx I oI D ys h tk Q' E' F' N' off ne (fun y h' tk' F'' N'' g => hret y news₁ h' tk' F'' N'' off (fun p hp => ?_) ⟨rfl, ?_⟩) hexc
    · rcases hsrc p hp with e | e
      · exact F''.keep _ _ e
      · exact (N'' p (List.mem_cons_of_mem _ (List.mem_cons_of_mem _ (List.mem_cons_of_mem _ e)))).1
    · rw [List.take_add_one, ha]
      exact hr.snoc g
  · obtain ⟨rfl, hr⟩ := hj
    rw [List.take_length] at hr
    exact done ys hr
end

section
variable {prog : Program} {w : World} {A : Around} {E : Value → Shared → Prop} {s : Shared} {h₀ : Heap} {env : Env} {outer : List Env} {exc : Prop} {body : List Stmt} {Q : Flow → Shared → Prop}

theorem while_rule {test : PySem.Expr} {pos : Pos} {m : Str → Option Value} {news : List (Addr × Obj)} (J : Nat → (Str → Option Value) → List (Addr × Obj) → Prop) (n₀ : Nat) (hfr : A.frames = some (env :: outer)) (hf : env.frame = some env.locals)
    (F : Fr h₀ env.locals s.heap m) (N : News h₀ env.locals s.heap news) (hj : J n₀ m news)
    (turn : ∀ n m₁ news₁ h tk, J n m₁ news₁ → Fr h₀ env.locals h m₁ → News h₀ env.locals h news₁ → ∀ (Q' : Flow → Shared → Prop) (E' : Value → Shared → Prop),
      (∀ f n' m' news' h' tk', (f = .next ∨ f = .cont) → n' < n → Fr h₀ env.locals h' m' → News h₀ env.locals h' news' → J n' m' news' → Q' f { s with heap := h', toks := tk' }) →
      (∀ s', Q .next s' → Q' .brk s') → (∀ r s', Q (.ret r) s' → Q' (.ret r) s') → (exc → EOk (env :: outer) h₀ env.locals s E') →
      wpAny (model prog w) A (isTrue test env (eval test env)) (fun b s₂ => if b = true then wpAny (model prog w) A (execs body env) Q' E' s₂ else Q .next s₂) E' { s with heap := h, toks := tk })
    (hE : exc → EOk (env :: outer) h₀ env.locals s E) :
    wpAny (model prog w) A (exec (.While test body [] pos) env) Q E s := by
  refine wpAny_While ?_
  have hE' : ∀ e s', EIs exc (env :: outer) h₀ env.locals s e s' → notedBy (model prog w) A env (fun e s' => cameBackBy (model prog w) A env E e s') e s' :=
    EIs.noted hfr hf hf (EIs.cameBack (EIs.to hE))
  refine codeAny_whileLoop (R := fun r s' => match r with | .ok f => Q f s' | .error e => cameBackBy (model prog w) A env E e s')
    (fun k s' => ∃ h' tk m' news', s' = { s with heap := h', toks := tk } ∧ Fr h₀ env.locals h' m' ∧ News h₀ env.locals h' news' ∧ J k m' news') ?_ n₀ ⟨s.heap, s.toks, m, news, rfl, F, N, hj⟩
  rintro k s' ⟨h', tk, m', news', rfl, F', N', hJ⟩
  let T : Shared → Prop := fun s₃ => ∃ k', k' < k ∧ ∃ h' tk m' news', s₃ = { s with heap := h', toks := tk } ∧ Fr h₀ env.locals h' m' ∧ News h₀ env.locals h' news' ∧ J k' m' news'
  refine wpAny_mono (turn k m' news' h' tk hJ F' N' (fun f s₃ => match f with
      | .next => T s₃
      | .cont => T s₃
      | .brk => Q .next s₃
      | .ret v => Q (.ret v) s₃) (EIs exc (env :: outer) h₀ env.locals s) (fun f n' m₃ news₃ h₃ tk₃ hf₃ hlt F₃ N₃ J₃ => ?_) (fun _ q => q) (fun _ _ q => q) EIs.ok) (fun b s₃ q => ?_) hE'
  · have : T { s with heap := h₃, toks := tk₃ } := ⟨n', hlt, h₃, tk₃, m₃, news₃, rfl, F₃, N₃, J₃⟩
    rcases hf₃ with rfl | rfl <;> exact this
  · cases b with
    | true =>
      simp only [if_true] at q ⊢
      exact wpAny_mono q (fun f s₄ z => by cases f <;> exact z) hE'
    | false =>
      simp only [Bool.false_eq_true, if_false] at q ⊢
      exact wpAny_execs_nil q
end
end Mine
end
section
open PySem PySem.W PyProof.Rows PySem.Calls
open PyProof.Rows.LCg (lst Off3 Off1 NsObj ns_obj lst_snoc fr_but news_but)
namespace Mine
set_option maxRecDepth 100000
set_option maxHeartbeats 4000000
noncomputable abbrev Nms := Str → Option Value
/-- names bound anew -/
noncomputable def ovr : List (Str × Option Value) → Nms → Nms
  | [], m => m
  | (a, v) :: l, m => upd a v (ovr l m)
theorem ovr_cons {a : Str} {v : Option Value} {l : List (Str × Option Value)} {m : Nms} (h : m a = v) (hl : ∀ y, m y = ovr l m y) : ∀ y, m y = ovr ((a, v) :: l) m y := fun y => by
  show m y = if y = a then v else ovr l m y
  by_cases hy : y = a
  · rw [if_pos hy, hy, h]
  · rw [if_neg hy]; exact hl y

theorem Rel2.unmap {α β : Type} {G : β → Value → Prop} (f : α → β) : ∀ {l : List α} {vs : List Value}, Rel2 G (l.map f) vs → Rel2 (fun a v => G (f a) v) l vs
  | [], [], _ => trivial
  | _ :: _, _ :: _, x => ⟨x.1, Rel2.unmap f x.2⟩
  | [], _ :: _, x => x.elim
  | _ :: _, [], x => x.elim

theorem IterOf.rel {prog : Program} {w : World} {A : Around} {h : Heap} {α : Type} {G : α → Value → Prop} {xs : List α} {ys : List Value} {xv : Value} {src : List (Addr × Obj)} (hr : Rel2 G xs ys) (hi : IterOf prog w A xv h ys (fun a v => a = v) src) : IterOf prog w A xv h xs G src := by
  have hlen := hr.length
  refine ⟨hi.1, hi.2.1, fun s Q E hs hQ => hi.2.2 s Q E hs fun o fp St Sr hf hd hfp hst => hQ o fp St ?_ hf hd hfp hst⟩
  obtain ⟨W, hit, hstay⟩ := Sr
  refine ⟨⟨W.sub, W.frame, fun i s' Q' E' hi' st hQ' => ?_, fun s' Q' E' st hQ' => ?_, W.self⟩, hit, hstay⟩
  · refine W.item i s' Q' E' (by omega) st fun v h' tk hP => hQ' v h' tk ?_
    obtain ⟨a, ha, rfl⟩ := hP
    exact hr.get ha
  · exact W.done s' Q' E' (by rw [hlen]; exact st) hQ'
section
variable {prog : Program} {w : World} {A : Around} {E : Value → Shared → Prop} {h₀ : Heap} {env : Env} {outer : List Env} {exc : Prop} {x : Str} {body : List Stmt} {Q : Flow → Shared → Prop} {xv : Value} {s₁ : Shared}

theorem ForGo.inv {α σ : Type} {xs : List α} {V : α → Value → Prop} {src : List (Addr × Obj)} {m : Nms} (I : Nat → σ → Prop) (ups : σ → List (Str × Option Value)) (NW : σ → List (Addr × Obj)) (st₀ : σ)
    (hi : IterOf prog w A xv s₁.heap xs V src) (F : Fr h₀ env.locals s₁.heap m) (N : News h₀ env.locals s₁.heap (NW st₀)) (hm : ∀ y, m y = ovr (ups st₀) m y) (h0 : I 0 st₀)
    (turn : ∀ i a v st h tk, xs[i]? = some a → V a v → I i st → Stand src h →
      ∀ (J : Addr) (oJ : Obj) (Q' : Flow → Shared → Prop) (E' : Value → Shared → Prop), Fr h₀ env.locals h (upd x (some v) (ovr (ups st) m)) → News h₀ env.locals h ((J, oJ) :: NW st) → (∀ p ∈ NW st, p.1 ≠ J) →
        (∀ st' f m' h' tk', (f = .next ∨ f = .cont) → Fr h₀ env.locals h' m' → (∀ y, y ≠ x → m' y = ovr (ups st') m y) → News h₀ env.locals h' ((J, oJ) :: NW st') → (∀ p ∈ NW st', p.1 ≠ J) → Stand src h' → I (i + 1) st' → Q' f { s₁ with heap := h', toks := tk' }) →
        (∀ s', Q .next s' → Q' .brk s') → (∀ r s', Q (.ret r) s' → Q' (.ret r) s') → (exc → EOk (env :: outer) h₀ env.locals s₁ E') →
        wpAny (model prog w) A (execs body env) Q' E' { s₁ with heap := h, toks := tk })
    (done : ∀ st o h' tk', I xs.length st → Stand src h' → Fr h₀ env.locals h' (upd x o (ovr (ups st) m)) → News h₀ env.locals h' (NW st) → Q .next { s₁ with heap := h', toks := tk' })
    (hE : exc → EOk (env :: outer) h₀ env.locals s₁ E) :
    ForGo prog w A h₀ env outer x body Q E exc xv s₁ := by
  refine ⟨α, xs, V, src, m, NW st₀, fun i m' nw => ∃ st o, I i st ∧ m' = (fun y => if y = x then o else ovr (ups st) m y) ∧ nw = NW st, hi, F, N, ⟨st₀, m x, h0, ?_, rfl⟩, ?_, ?_, hE⟩
  · funext y
    by_cases hy : y = x
    · simp [hy]
    · rw [if_neg hy]; exact hm y
  · rintro i a v m₁ news₁ h tk ha hV ⟨st, o, hI, rfl, rfl⟩ hS J oJ Q' E' F' N' hne hnext hbrk hret hexc
    have hmm : (fun y => if y = x then some v else if y = x then o else ovr (ups st) m y) = (fun y => if y = x then some v else ovr (ups st) m y) := by
      funext y
      by_cases hy : y = x <;> simp [hy]
    refine turn i a v st h tk ha hV hI hS J oJ Q' E' (by show Fr h₀ env.locals h (fun y => if y = x then some v else ovr (ups st) m y); rw [← hmm]; exact F') N' hne (fun st' f m' h' tk' hf F'' hm'' N'' hn'' S'' I'' => ?_) hbrk hret hexc
    refine hnext f m' (NW st') h' tk' hf F'' N'' hn'' S'' ⟨st', m' x, I'', ?_, rfl⟩
    funext y
    by_cases hy : y = x
    · simp [hy]
    · rw [if_neg hy]; exact hm'' y hy
  · rintro m' news' h' tk' ⟨st, o, hI, rfl, rfl⟩ hS F' N'
    exact done st o h' tk' hI hS F' N'
end

section
variable {prog : Program} {w : World} {A : Around} {E : Value → Shared → Prop} {s : Shared} {h₀ : Heap} {env : Env} {outer : List Env} {exc : Prop} {body : List Stmt} {Q : Flow → Shared → Prop}
theorem while_inv {test : PySem.Expr} {pos : Pos} {σ : Type} {m : Nms} (I : Nat → σ → Prop) (ups : σ → List (Str × Option Value)) (NW : σ → List (Addr × Obj)) (st₀ : σ) (n₀ : Nat) (hfr : A.frames = some (env :: outer)) (hf : env.frame = some env.locals)
    (F : Fr h₀ env.locals s.heap m) (N : News h₀ env.locals s.heap (NW st₀)) (hm : ∀ y, m y = ovr (ups st₀) m y) (h0 : I n₀ st₀)
    (turn : ∀ n st h tk, I n st → Fr h₀ env.locals h (ovr (ups st) m) → News h₀ env.locals h (NW st) → ∀ (Q' : Flow → Shared → Prop) (E' : Value → Shared → Prop),
      (∀ f n' st' m' h' tk', (f = .next ∨ f = .cont) → n' < n → Fr h₀ env.locals h' m' → (∀ y, m' y = ovr (ups st') m y) → News h₀ env.locals h' (NW st') → I n' st' → Q' f { s with heap := h', toks := tk' }) →
      (∀ s', Q .next s' → Q' .brk s') → (∀ r s', Q (.ret r) s' → Q' (.ret r) s') → (exc → EOk (env :: outer) h₀ env.locals s E') →
      wpAny (model prog w) A (isTrue test env (eval test env)) (fun b s₂ => if b = true then wpAny (model prog w) A (execs body env) Q' E' s₂ else Q .next s₂) E' { s with heap := h, toks := tk })
    (hE : exc → EOk (env :: outer) h₀ env.locals s E) :
    wpAny (model prog w) A (exec (.While test body [] pos) env) Q E s := by
  refine while_rule (fun n m' nw => ∃ st, I n st ∧ m' = ovr (ups st) m ∧ nw = NW st) n₀ hfr hf F N ⟨st₀, h0, funext hm, rfl⟩ ?_ hE
  rintro n m₁ news₁ h tk ⟨st, hI, rfl, rfl⟩ F' N' Q' E' hnext hbrk hret hexc
  exact turn n st h tk hI F' N' Q' E' (fun f n' st' m' h' tk' hf hlt F'' hm'' N'' I'' => hnext f n' m' (NW st') h' tk' hf hlt F'' N'' ⟨st', I'', funext hm'', rfl⟩) hbrk hret hexc
end
end Mine
end
section
open PySem PySem.W PyProof.Rows PySem.Calls
open PyProof.Rows.LCg (lst Off3 Off1 NsObj ns_obj lst_snoc fr_but news_but)
namespace Mine
set_option maxRecDepth 100000

section
variable {prog : Program} {w : World} {A : Around} {E : Value → Shared → Prop} {s : Shared} {h₀ : Heap} {L : Addr} {m : Str → Option Value} {env : Env} {outer : List Env} {exc : Prop} {elt iter : PySem.Expr} {ifs : List PySem.Expr} {x y : Str} {px py pos spos : Pos} {scope : Scope} {cl : List (Str × Addr)}

theorem comp_exprI {Q : Value → Shared → Prop} (_F₀ : Fr h₀ L s.heap m) (hfr : A.frames = some (env :: outer)) (hf : env.frame = some L) (hout : exc → ∀ b ∈ outer.filterMap (·.frame), ∃ o, h₀.get? b = some o)
    (hclos : closureFor scope env = pure cl) (hcell : ∀ y ∈ scope.names, y.2 ≠ .cell) (hkind : scope.kind = .function)
    (hnames : ∀ y ∈ scope.names, y.2 = .local → scope.names.lookup y.1 = some .local) (hx : scope.names.lookup x = some .local)
    (h : wpAny (model prog w) A (eval iter env) (CompGoI prog w A h₀ L m env outer elt ifs x scope cl (FinX h₀ L m Q) E exc) E s)
    (hs : ∀ x, foldedSetIterable iter env x = pure x := by intro _; rfl) :
    wpAny (model prog w) A (eval (.ListComp elt [⟨.Name x px, iter, ifs, 0⟩] scope pos) env) Q E s := by
  rw [eval_ListComp]
  refine wpAny_comprehension_free (use := none) rfl hs hclos hkind hnames (wpAny_mono h (fun xv s₁ h₁ => ?_) fun _ _ e => e)
  refine comp_blockI (RR := compPost (model prog w) A E none Q) (fun _ => hfr) hf hout hcell hkind hx h₁ ?_ ?_
  · intro D C h tk m' ys news' F' N' o1 hn hC₀ hD₀ hCL hDL hCD offC fin
    refine ⟨m', hn, fun h'' hs'' => fin D h'' tk (F'.change hs'' hCL hC₀) (fun p hp => ?_) o1⟩
    refine ⟨hs''.extBut _ _ ?_ (N' p hp).1, (N' p hp).2⟩
    rcases List.mem_cons.mp hp with rfl | hp
    · exact Ne.symm hCD
    · exact offC p hp
  · intro D C ea h' tk m' hn hp
    exact ⟨m', hn, hp⟩

theorem comp_assignI {Q : Flow → Shared → Prop} (_F₀ : Fr h₀ L s.heap m) (hfr : A.frames = some (env :: outer)) (hf : env.frame = some L) (hLe : env.locals = L) (hout : exc → ∀ b ∈ outer.filterMap (·.frame), ∃ o, h₀.get? b = some o)
    (hsw : swapsWith (.ListComp elt [⟨.Name x px, iter, ifs, 0⟩] scope pos) (some (.Name y py)) spos.line env = pure true)
    (hclos : closureFor scope env = pure cl) (hcell : ∀ z ∈ scope.names, z.2 ≠ .cell) (hkind : scope.kind = .function)
    (hnames : ∀ z ∈ scope.names, z.2 = .local → scope.names.lookup z.1 = some .local) (hx : scope.names.lookup x = some .local)
    (hy : env.kindOf y = some .local) (hp : (env.scope.kind == .class || (env.scope.kind == .module && env.locals != env.globals)) = false)
    (h : wpAny (model prog w) A (eval iter env) (CompGoI prog w A h₀ L m env outer elt ifs x scope cl (FinY h₀ L m y Q) E exc) E s)
    (hs : ∀ x, foldedSetIterable iter env x = pure x := by intro _; rfl) :
    wpAny (model prog w) A (exec (.Assign [.Name y py] (.ListComp elt [⟨.Name x px, iter, ifs, 0⟩] scope pos) spos) env) Q E s := by
  subst hLe
  rw [exec_Assign_Name_used _ _ _ _ hsw]
  refine wpAny_bind (wpAny_standAt (wpAny_bind ?_))
  show wpAny _ A (do let _ ← comprehension (.ListComp elt [⟨.Name x px, iter, ifs, 0⟩] scope pos) scope env _ (newList []) false (eval iter env) (some (assign (.Name y py) env))) _ _ s
  refine wpAny_bind (wpAny_mono (wpAny_comprehension_free (use := some (assign (.Name y py) env)) (Q := fun _ s' => Q .next s') rfl hs hclos hkind hnames
    (wpAny_mono h (fun xv s₁ h₁ => ?_) fun _ _ e => e)) (fun _ s' hq => wpAny_pure (wpAny_pure hq)) fun _ _ e => e)
  refine comp_blockI (RR := compPost (model prog w) A E (some (assign (.Name y py) env)) (fun _ s' => Q .next s')) (fun _ => hfr) hf hout hcell hkind hx h₁ ?_ ?_
  · intro D C h' tk m' ys news' F' N' o1 hn hC₀ hD₀ hCL hDL hCD offC fin
    show wpAny _ A (assign (.Name y py) env (.ref D)) _ _ _
    refine wpAny_assign_Name (wpAny_storeName_local hy F'.ns (fun h₂ hn₂ hs₂ => ?_) hp)
    have hL₀ : h₀.get? env.locals = none := Heap.get?_none_of_le F'.above
    have F₂ : Fr h₀ env.locals h₂ (fun z => if z = y then some (.ref D) else m z) := ⟨hn₂, fun b o e => hs₂.extBut b o (fun q => by rw [q, hL₀] at e; cases e) (F'.keep b o e), F'.above⟩
    refine ⟨m', hn.sameBut hs₂ hCL, fun h'' hs'' => fin D h'' _ (F₂.change hs'' hCL hC₀) (fun p hp => ?_) o1⟩
    have z : h₂.get? p.1 = some p.2 := hs₂.extBut _ _ (N' p hp).2.1 (N' p hp).1
    refine ⟨hs''.extBut _ _ ?_ z, (N' p hp).2⟩
    rcases List.mem_cons.mp hp with rfl | hp
    · exact Ne.symm hCD
    · exact offC p hp
  · intro D C ea h' tk m' hn hp
    exact ⟨m', hn, hp⟩
end
end Mine
end
section
open PySem PySem.W PyProof.Rows PySem.Calls
open PyProof.Rows.LCg (lst Off3 Off1 NsObj ns_obj lst_snoc fr_but news_but)
namespace Mine
set_option maxRecDepth 100000
theorem Rel2.append {α : Type} {G : α → Value → Prop} : ∀ {l l' : List α} {vs vs' : List Value}, Rel2 G l vs → Rel2 G l' vs' → Rel2 G (l ++ l') (vs ++ vs')
  | [], _, [], _, _, h => h
  | _ :: _, _, _ :: _, _, h, h' => ⟨h.1, Rel2.append h.2 h'⟩
noncomputable abbrev Ex2 (elt i1 i2 : PySem.Expr) (t1 t2 : PySem.Expr) (scope : Scope) (pos : Pos) : PySem.Expr := .ListComp elt [⟨t1, i1, [], 0⟩, ⟨t2, i2, [], 0⟩] scope pos

theorem compTurn_two0 (elt i1 i2 t1 t2 : PySem.Expr) (scope : Scope) (pos : Pos) (it acc : Value) (env : Env) :
    compTurn (Ex2 elt i1 i2 t1 t2 scope pos) 0 it acc env = (standAt i1.pos >>= fun _ => pyNext it >>= fun r => match r with
      | none => pure (.done .next)
      | some v => letOwnedTupleGo t1 it v >>= fun _ => assign t1 env v >>= fun _ =>
        (eval i2 env >>= fun x => standAt i2.pos >>= fun _ => foldedSetIterable i2 env x >>= fun x => holding [x] (pyIter x) >>= fun it' => runOwn (.compStart (Ex2 elt i1 i2 t1 t2 scope pos) 1 it' acc env) env >>= fun _ =>
          again (.compLoop (Ex2 elt i1 i2 t1 t2 scope pos) 0 it acc env))) := by rfl
theorem compTurn_two1 (elt i1 i2 t1 t2 : PySem.Expr) (scope : Scope) (pos : Pos) (it acc : Value) (env : Env) :
    compTurn (Ex2 elt i1 i2 t1 t2 scope pos) 1 it acc env = (standAt i2.pos >>= fun _ => pyNext it >>= fun r => match r with
      | none => pure (.done .next)
      | some v => letOwnedTupleGo t2 it v >>= fun _ => assign t2 env v >>= fun _ =>
        (eval elt env >>= fun x => call (.builtin "list.append") [acc, x] >>= fun _ => pure ()) >>= fun _ =>
          again (.compLoop (Ex2 elt i1 i2 t1 t2 scope pos) 1 it acc env)) := by rfl

section
variable {prog : Program} {w : World} {A : Around} {R : Result → Shared → Prop} {s : Shared} {elt i1 i2 t1 t2 : PySem.Expr} {scope : Scope} {pos : Pos} {it acc : Value} {env : Env}
noncomputable abbrev NoE : Value → Shared → Prop := fun _ _ => False

theorem compStart_two1
    (h0 : codeAny (model prog w) A (.compLoop (Ex2 elt i1 i2 t1 t2 scope pos) 1 it acc env) R s)
    (h : wpAny (model prog w) A (pyIter it) (fun it' s' => codeAny (model prog w) A (.compLoop (Ex2 elt i1 i2 t1 t2 scope pos) 1 it' acc env) R s') NoE s) :
    codeAny (model prog w) A (.compStart (Ex2 elt i1 i2 t1 t2 scope pos) 1 it acc env) R s := by
  refine codeAny_of_tree ?_
  show wpAny _ _ ((compStart (Ex2 elt i1 i2 t1 t2 scope pos) 1 it acc env).onRaise (fun x => do noteFrame x env; standAt theWindowsPlace)) _ _ s
  refine wpAny_notedAt ?_
  unfold compStart
  show wpAny _ _ (ask >>= _) _ _ s
  refine wpAny_bind (wpAny_askSetting (wpAny_ite ?_))
  split
  · first
      | exact wpAny_bind (wpAny_pure (wpAny_pure (And.intro rfl h0)))
      | exact wpAny_pure (And.intro rfl h0)
  · first
      | exact wpAny_bind (wpAny_rule (wpAny_bind (wpAny_standAt (wpAny_bind (wpAny_mono h (fun it' s' h' => wpAny_pure (And.intro rfl h')) fun _ _ x => x.elim)))))
      | (refine wpAny_bind (wpAny_rule ?_); show wpAny _ _ (standAt i2.pos >>= _) _ _ s; exact wpAny_bind (wpAny_standAt (wpAny_bind (wpAny_mono h (fun it' s' h' => wpAny_pure (And.intro rfl h')) fun _ _ x => x.elim))))

theorem compLoop_two0 (I : Nat → Shared → Prop)
    (turn : ∀ n s, I n s → wpAny (model prog w) A (pyNext it) (fun r s₁ => match r with
      | none => R (.ok .next) s₁
      | some v => wpAny (model prog w) A (assign t1 env v) (fun _ s₂ => wpAny (model prog w) A (eval i2 env) (fun x s₃ => wpAny (model prog w) A (pyIter x) (fun it' s₄ =>
          codeAny (model prog w) A (.compStart (Ex2 elt i1 i2 t1 t2 scope pos) 1 it' acc env) (fun r s₅ => (∃ f, r = .ok f) ∧ ∃ m, m < n ∧ I m s₅) s₄) NoE s₃) NoE s₂) NoE s₁) NoE s)
    (n : Nat) (h : I n s) (ht : ∀ v, letOwnedTupleGo t1 it v = pure () := by intro _; rfl) (hs : ∀ x, foldedSetIterable i2 env x = pure x := by intro _; rfl) :
    codeAny (model prog w) A (.compLoop (Ex2 elt i1 i2 t1 t2 scope pos) 0 it acc env) R s := by
  refine codeAny_loop rfl I (fun n s hI => ?_) n h
  show wpAny _ _ ((compTurn (Ex2 elt i1 i2 t1 t2 scope pos) 0 it acc env).onRaise (fun x => do noteFrame x env; theTreesLotGoes x)) _ _ s
  refine wpAny_noted ?_
  rw [compTurn_two0]
  refine wpAny_bind (wpAny_standAt (wpAny_bind (wpAny_mono (turn n s hI) (fun r s₁ h₁ => ?_) fun _ _ h' => h'.elim)))
  cases r with
  | none => exact wpAny_pure h₁
  | some v =>
    refine wpAny_bind (wpAny_of_eq (ht v) ?_)
    refine wpAny_bind (wpAny_mono h₁ (fun _ s₂ h₂ => ?_) fun _ _ h' => h'.elim)
    refine wpAny_bind (wpAny_mono h₂ (fun x s₃ h₃ => ?_) fun _ _ h' => h'.elim)
    refine wpAny_bind (wpAny_standAt (wpAny_bind (wpAny_of_eq (hs x) (wpAny_bind (wpAny_holding (wpAny_mono h₃ (fun it' s₄ h₄ => ?_) fun _ _ h' => h'.elim))))))
    refine wpAny_bind (wpAny_runOwn (h := none) (codeAny_mono h₄ fun r s₅ h₅ => ?_))
    obtain ⟨⟨f, rfl⟩, h₆⟩ := h₅
    exact wpAny_pure ⟨rfl, h₆⟩

theorem compLoop_two1 (I : Nat → Shared → Prop)
    (turn : ∀ n s, I n s → wpAny (model prog w) A (pyNext it) (fun r s₁ => match r with
      | none => R (.ok .next) s₁
      | some v => wpAny (model prog w) A (assign t2 env v) (fun _ s₂ => wpAny (model prog w) A (eval elt env) (fun x s₃ =>
          wpAny (model prog w) A (call (.builtin "list.append") [acc, x]) (fun _ s₄ => ∃ m, m < n ∧ I m s₄) NoE s₃) NoE s₂) NoE s₁) NoE s)
    (n : Nat) (h : I n s) (ht : ∀ v, letOwnedTupleGo t2 it v = pure () := by intro _; rfl) :
    codeAny (model prog w) A (.compLoop (Ex2 elt i1 i2 t1 t2 scope pos) 1 it acc env) R s := by
  refine codeAny_loop rfl I (fun n s hI => ?_) n h
  show wpAny _ _ ((compTurn (Ex2 elt i1 i2 t1 t2 scope pos) 1 it acc env).onRaise (fun x => do noteFrame x env; theTreesLotGoes x)) _ _ s
  refine wpAny_noted ?_
  rw [compTurn_two1]
  refine wpAny_bind (wpAny_standAt (wpAny_bind (wpAny_mono (turn n s hI) (fun r s₁ h₁ => ?_) fun _ _ h' => h'.elim)))
  cases r with
  | none => exact wpAny_pure h₁
  | some v =>
    refine wpAny_bind (wpAny_of_eq (ht v) ?_)
    exact wpAny_bind (wpAny_mono h₁ (fun _ s₂ h₂ => wpAny_bind (wpAny_bind (wpAny_mono h₂ (fun x s₃ h₃ => wpAny_bind (wpAny_mono h₃
      (fun _ s₄ h₄ => wpAny_pure (wpAny_pure ⟨rfl, h₄⟩)) fun _ _ h' => h'.elim)) fun _ _ h' => h'.elim))) fun _ _ h' => h'.elim)
end

section
variable {prog : Program} {w : World} {A : Around} {R : Result → Shared → Prop} {s₁ : Shared} {h₀ : Heap} {L : Addr} {m : Str → Option Value} {env : Env} {elt i1 i2 : PySem.Expr} {x y : Str} {px py pos : Pos} {scope : Scope} {cl : List (Str × Addr)}

/-- the element of a quiet comprehension, the names standing at C -/
noncomputable def EltOk (prog : Program) (w : World) (A : Around) (h₀ : Heap) (L : Addr) (m : Str → Option Value) (env : Env) (elt : PySem.Expr) (scope : Scope) (cl : List (Str × Addr)) (s₁ : Shared) (C : Addr) (oC : Obj) (news : List (Addr × Obj)) (G : Value → Prop) : Prop :=
  ∀ (h : Heap) (tk : Nat) (Q' : Value → Shared → Prop), Fr h₀ L h m → News h₀ L h ((C, oC) :: news) →
    (∀ yv h' tk', Fr h₀ L h' m → News h₀ L h' ((C, oC) :: news) → G yv → Q' yv { s₁ with heap := h', toks := tk' }) →
    wpAny (model prog w) A (eval elt (compEnvC scope cl C env)) Q' NoE { s₁ with heap := h, toks := tk }

end
section
noncomputable def comp_inner_S : Prop := (∀ (prog : Program) (w : World) (A : Around) (R : Result → Shared → Prop) (s₁ : Shared) (h₀ : Heap) (L : Addr) (m : Str → Option Value) (env : Env) (elt : PySem.Expr) (i1 : PySem.Expr) (i2 : PySem.Expr) (x : Str) (y : Str) (px : Pos) (py : Pos) (pos : Pos) (scope : Scope) (cl : List (Str × Addr)) (β : Type) (zs : List β) (V2 : β → Value → Prop) (src2 : List (Addr × Obj)) (news : List (Addr × Obj)) (I : Addr) (C : Addr) (D : Addr) (fp : List Addr) (St : Nat → Heap → Prop) (h : Heap) (tk : Nat) (mC : Str → Option Value) (ys : List Value) (G : β → Value → Prop) (Sr : Source prog w A zs V2 src2 I fp St) (hst : St 0 h) (F : Fr h₀ L h m) (hn : h.Ns C mC) (N : News h₀ L h ((D, lst ys) :: news)) (off : Off3 I C D news) (hCI : I ≠ C) (hDI : I ≠ D) (hDC : D ≠ C) (hIL : L ≠ I) (hI₀ : h₀.get? I = none) (hCL : C ≠ L) (hC₀ : h₀.get? C = none) (S : Stand src2 h) (hsI : ∀ p ∈ src2, p.1 ≠ I) (hsC : ∀ p ∈ src2, p.1 ≠ C) (hsD : ∀ p ∈ src2, p.1 ≠ D) (hsN : ∀ p ∈ src2, p ∈ news) (hsz : ys.length + zs.length ≤ sizeLine) (hkind : scope.kind = .function) (hy : scope.names.lookup y = some .local) (turn : ∀ b v oC m₂ oI ys', b ∈ zs → V2 b v → NsObj oC m₂ → m₂ y = some v → (∀ z, z ≠ y → m₂ z = mC z) → EltOk prog w A h₀ L m env elt scope cl s₁ C oC ((I, oI) :: (D, lst ys') :: news) (G b)) (done : ∀ ys2 h' tk' m', Rel2 G zs ys2 → Fr h₀ L h' m → h'.Ns C m' → News h₀ L h' ((D, lst (ys ++ ys2)) :: news) → R (.ok .next) { s₁ with heap := h', toks := tk' }), codeAny (model prog w) A (.compLoop (Ex2 elt i1 i2 (.Name x px) (.Name y py) scope pos) 1 (.ref I) (.ref D) (compEnvC scope cl C env)) R { s₁ with heap := h, toks := tk })
noncomputable def comp_inner_sb1 : { pQ : (Program) → (World) → (Around) → (Result → Shared → Prop) → (Shared) → (Heap) → (Addr) → (Str → Option Value) → (Env) → (PySem.Expr) → (PySem.Expr) → (PySem.Expr) → (Str) → (Str) → (Pos) → (Pos) → (Pos) → (Scope) → (List (Str × Addr)) → (β : Type) → (List β) → (β → Value → Prop) → (List (Addr × Obj)) → (List (Addr × Obj)) → (Addr) → (Addr) → (Addr) → (List Addr) → (Nat → Heap → Prop) → (Heap) → (Nat) → (Str → Option Value) → (List Value) → (β → Value → Prop) → Prop // (∀ (prog : Program) (w : World) (A : Around) (R : Result → Shared → Prop) (s₁ : Shared) (h₀ : Heap) (L : Addr) (m : Str → Option Value) (env : Env) (elt : PySem.Expr) (i1 : PySem.Expr) (i2 : PySem.Expr) (x : Str) (y : Str) (px : Pos) (py : Pos) (pos : Pos) (scope : Scope) (cl : List (Str × Addr)) (β : Type) (zs : List β) (V2 : β → Value → Prop) (src2 : List (Addr × Obj)) (news : List (Addr × Obj)) (I : Addr) (C : Addr) (D : Addr) (fp : List Addr) (St : Nat → Heap → Prop) (h : Heap) (tk : Nat) (mC : Str → Option Value) (ys : List Value) (G : β → Value → Prop), pQ prog w A R s₁ h₀ L m env elt i1 i2 x y px py pos scope cl β zs V2 src2 news I C D fp St h tk mC ys G) → comp_inner_S } := ⟨_, by
  intro hP_en
  intro prog w A R s₁ h₀ L m env elt i1 i2 x y px py pos scope cl β zs V2 src2 news I C D fp St h tk mC ys G Sr hst F hn N off hCI hDI hDC hIL hI₀ hCL hC₀ S hsI hsC hsD hsN hsz hkind hy turn done
  revert Sr hst F hn N off hCI hDI hDC hIL hI₀ hCL hC₀ S hsI hsC hsD hsN hsz hkind hy turn done; exact hP_en prog w A R s₁ h₀ L m env elt i1 i2 x y px py pos scope cl β zs V2 src2 news I C D fp St h tk mC ys G⟩
namespace comp_inner_en
noncomputable def c0 : (Program) × (World) × (Around) × (Result → Shared → Prop) × (Shared) × (Heap) × (Addr) × (Str → Option Value) × (Env) × (PySem.Expr) × (PySem.Expr) × (PySem.Expr) × (Str) × (Str) × (Pos) × (Pos) × (Pos) × (Scope) × (List (Str × Addr)) × (β : Type) × (List β) × (β → Value → Prop) × (List (Addr × Obj)) × (List (Addr × Obj)) × (Addr) × (Addr) × (Addr) × (List Addr) × (Nat → Heap → Prop) × (Heap) × (Nat) × (Str → Option Value) × (List Value) × (β → Value → Prop) × Unit := pick ⟨⟨default, dW, dA, default, dS, default, default, default, default, default, default, default, default, default, default, default, default, default, default, PUnit, default, default, default, default, default, default, default, default, default, default, default, default, default, default, ()⟩⟩ fun q => comp_inner_sb1.1 q.1 q.2.1 q.2.2.1 q.2.2.2.1 q.2.2.2.2.1 q.2.2.2.2.2.1 q.2.2.2.2.2.2.1 q.2.2.2.2.2.2.2.1 q.2.2.2.2.2.2.2.2.1 q.2.2.2.2.2.2.2.2.2.1 q.2.2.2.2.2.2.2.2.2.2.1 q.2.2.2.2.2.2.2.2.2.2.2.1 q.2.2.2.2.2.2.2.2.2.2.2.2.1 q.2.2.2.2.2.2.2.2.2.2.2.2.2.1 q.2.2.2.2.2.2.2.2.2.2.2.2.2.2.1 q.2.2.2.2.2.2.2.2.2.2.2.2.2.2.2.1 q.2.2.2.2.2.2.2.2.2.2.2.2.2.2.2.2.1 q.2.2.2.2.2.2.2.2.2.2.2.2.2.2.2.2.2.1 q.2.2.2.2.2.2.2.2.2.2.2.2.2.2.2.2.2.2.1 q.2.2.2.2.2.2.2.2.2.2.2.2.2.2.2.2.2.2.2.1 q.2.2.2.2.2.2.2.2.2.2.2.2.2.2.2.2.2.2.2.2.1 q.2.2.2.2.2.2.2.2.2.2.2.2.2.2.2.2.2.2.2.2.2.1 q.2.2.2.2.2.2.2.2.2.2.2.2.2.2.2.2.2.2.2.2.2.2.1 q.2.2.2.2.2.2.2.2.2.2.2.2.2.2.2.2.2.2.2.2.2.2.2.1 q.2.2.2.2.2.2.2.2.2.2.2.2.2.2.2.2.2.2.2.2.2.2.2.2.1 q.2.2.2.2.2.2.2.2.2.2.2.2.2.2.2.2.2.2.2.2.2.2.2.2.2.1 q.2.2.2.2.2.2.2.2.2.2.2.2.2.2.2.2.2.2.2.2.2.2.2.2.2.2.1 q.2.2.2.2.2.2.2.2.2.2.2.2.2.2.2.2.2.2.2.2.2.2.2.2.2.2.2.1 q.2.2.2.2.2.2.2.2.2.2.2.2.2.2.2.2.2.2.2.2.2.2.2.2.2.2.2.2.1 q.2.2.2.2.2.2.2.2.2.2.2.2.2.2.2.2.2.2.2.2.2.2.2.2.2.2.2.2.2.1 q.2.2.2.2.2.2.2.2.2.2.2.2.2.2.2.2.2.2.2.2.2.2.2.2.2.2.2.2.2.2.1 q.2.2.2.2.2.2.2.2.2.2.2.2.2.2.2.2.2.2.2.2.2.2.2.2.2.2.2.2.2.2.2.1 q.2.2.2.2.2.2.2.2.2.2.2.2.2.2.2.2.2.2.2.2.2.2.2.2.2.2.2.2.2.2.2.2.1 q.2.2.2.2.2.2.2.2.2.2.2.2.2.2.2.2.2.2.2.2.2.2.2.2.2.2.2.2.2.2.2.2.2.1
@[irreducible] noncomputable def prog : Program := c0.1
@[irreducible] noncomputable def w : World := c0.2.1
@[irreducible] noncomputable def A : Around := c0.2.2.1
@[irreducible] noncomputable def R : Result → Shared → Prop := c0.2.2.2.1
@[irreducible] noncomputable def s₁ : Shared := c0.2.2.2.2.1
@[irreducible] noncomputable def h₀ : Heap := c0.2.2.2.2.2.1
@[irreducible] noncomputable def L : Addr := c0.2.2.2.2.2.2.1
@[irreducible] noncomputable def m : Str → Option Value := c0.2.2.2.2.2.2.2.1
@[irreducible] noncomputable def env : Env := c0.2.2.2.2.2.2.2.2.1
@[irreducible] noncomputable def elt : PySem.Expr := c0.2.2.2.2.2.2.2.2.2.1
@[irreducible] noncomputable def i1 : PySem.Expr := c0.2.2.2.2.2.2.2.2.2.2.1
@[irreducible] noncomputable def i2 : PySem.Expr := c0.2.2.2.2.2.2.2.2.2.2.2.1
@[irreducible] noncomputable def x : Str := c0.2.2.2.2.2.2.2.2.2.2.2.2.1
@[irreducible] noncomputable def y : Str := c0.2.2.2.2.2.2.2.2.2.2.2.2.2.1
@[irreducible] noncomputable def px : Pos := c0.2.2.2.2.2.2.2.2.2.2.2.2.2.2.1
@[irreducible] noncomputable def py : Pos := c0.2.2.2.2.2.2.2.2.2.2.2.2.2.2.2.1
@[irreducible] noncomputable def pos : Pos := c0.2.2.2.2.2.2.2.2.2.2.2.2.2.2.2.2.1
@[irreducible] noncomputable def scope : Scope := c0.2.2.2.2.2.2.2.2.2.2.2.2.2.2.2.2.2.1
@[irreducible] noncomputable def cl : List (Str × Addr) := c0.2.2.2.2.2.2.2.2.2.2.2.2.2.2.2.2.2.2.1
@[irreducible] noncomputable def β : Type := c0.2.2.2.2.2.2.2.2.2.2.2.2.2.2.2.2.2.2.2.1
@[irreducible] noncomputable def zs : List β := by with_unfolding_all exact c0.2.2.2.2.2.2.2.2.2.2.2.2.2.2.2.2.2.2.2.2.1
@[irreducible] noncomputable def V2 : β → Value → Prop := by with_unfolding_all exact c0.2.2.2.2.2.2.2.2.2.2.2.2.2.2.2.2.2.2.2.2.2.1
@[irreducible] noncomputable def src2 : List (Addr × Obj) := c0.2.2.2.2.2.2.2.2.2.2.2.2.2.2.2.2.2.2.2.2.2.2.1
@[irreducible] noncomputable def news : List (Addr × Obj) := c0.2.2.2.2.2.2.2.2.2.2.2.2.2.2.2.2.2.2.2.2.2.2.2.1
@[irreducible] noncomputable def I : Addr := c0.2.2.2.2.2.2.2.2.2.2.2.2.2.2.2.2.2.2.2.2.2.2.2.2.1
@[irreducible] noncomputable def C : Addr := c0.2.2.2.2.2.2.2.2.2.2.2.2.2.2.2.2.2.2.2.2.2.2.2.2.2.1
@[irreducible] noncomputable def D : Addr := c0.2.2.2.2.2.2.2.2.2.2.2.2.2.2.2.2.2.2.2.2.2.2.2.2.2.2.1
@[irreducible] noncomputable def fp : List Addr := c0.2.2.2.2.2.2.2.2.2.2.2.2.2.2.2.2.2.2.2.2.2.2.2.2.2.2.2.1
@[irreducible] noncomputable def St : Nat → Heap → Prop := c0.2.2.2.2.2.2.2.2.2.2.2.2.2.2.2.2.2.2.2.2.2.2.2.2.2.2.2.2.1
@[irreducible] noncomputable def h : Heap := c0.2.2.2.2.2.2.2.2.2.2.2.2.2.2.2.2.2.2.2.2.2.2.2.2.2.2.2.2.2.1
@[irreducible] noncomputable def tk : Nat := c0.2.2.2.2.2.2.2.2.2.2.2.2.2.2.2.2.2.2.2.2.2.2.2.2.2.2.2.2.2.2.1
@[irreducible] noncomputable def mC : Str → Option Value := c0.2.2.2.2.2.2.2.2.2.2.2.2.2.2.2.2.2.2.2.2.2.2.2.2.2.2.2.2.2.2.2.1
@[irreducible] noncomputable def ys : List Value := c0.2.2.2.2.2.2.2.2.2.2.2.2.2.2.2.2.2.2.2.2.2.2.2.2.2.2.2.2.2.2.2.2.1
@[irreducible] noncomputable def G : β → Value → Prop := by with_unfolding_all exact c0.2.2.2.2.2.2.2.2.2.2.2.2.2.2.2.2.2.2.2.2.2.2.2.2.2.2.2.2.2.2.2.2.2.1
noncomputable def comp_inner_sb2 : { pQ : (Heap) → (Nat) → (Nat) → (List Value) → (Str → Option Value) → Prop // (∀ (h' : Heap) (tk : Nat) (i : Nat) (ys' : List Value) (m' : Str → Option Value), pQ h' tk i ys' m') → comp_inner_sb1.1 prog w A R s₁ h₀ L m env elt i1 i2 x y px py pos scope cl β zs V2 src2 news I C D fp St h tk mC ys G } := ⟨_, by
  intro hP_go
  intro Sr hst F hn N off hCI hDI hDC hIL hI₀ hCL hC₀ S hsI hsC hsD hsN hsz hkind hy turn done
  have off3 := off.mem
  have hDL : D ≠ L := (N (D, lst ys) List.mem_cons_self).2.1
  have hD₀ : h₀.get? D = none := (N (D, lst ys) List.mem_cons_self).2.2
  refine compLoop_two1
    (fun k s' => ∃ h' tk i ys' m', s' = { s₁ with heap := h', toks := tk } ∧ i ≤ zs.length ∧ k = zs.length + 1 - i ∧ ys'.length = i ∧ St i h' ∧ Fr h₀ L h' m ∧ h'.Ns C m' ∧ (∀ z, z ≠ y → m' z = mC z) ∧ News h₀ L h' ((D, lst (ys ++ ys')) :: news) ∧ Stand src2 h' ∧ Rel2 G (zs.take i) ys') ?_ (zs.length + 1)
    ⟨h, _, 0, [], mC, rfl, Nat.zero_le _, rfl, rfl, hst, F, hn, fun _ _ => rfl, by rw [List.append_nil]; exact N, S, trivial⟩
  rintro k s' ⟨h', tk, i, ys', m', rfl, hi, rfl, hyl, hst', F', hn', hm', N', S', hJ⟩
  revert Sr hCI hDI hDC hIL hI₀ hCL hC₀ hsI hsC hsD hsN hsz hkind hy turn done off3 hDL hD₀ hi hyl hst' F' hn' hm' N' S' hJ; exact hP_go h' tk i ys' m'⟩
namespace go
noncomputable def c0 : (Heap) × (Nat) × (Nat) × (List Value) × (Str → Option Value) × Unit := pick ⟨⟨default, default, default, default, default, ()⟩⟩ fun q => comp_inner_sb2.1 q.1 q.2.1 q.2.2.1 q.2.2.2.1 q.2.2.2.2.1
@[irreducible] noncomputable def h' : Heap := c0.1
@[irreducible] noncomputable def tk : Nat := c0.2.1
@[irreducible] noncomputable def i : Nat := c0.2.2.1
@[irreducible] noncomputable def ys' : List Value := c0.2.2.2.1
@[irreducible] noncomputable def m' : Str → Option Value := c0.2.2.2.2.1
theorem main : comp_inner_sb2.1 h' tk i ys' m' := by
  intro Sr hCI hDI hDC hIL hI₀ hCL hC₀ hsI hsC hsD hsN hsz hkind hy turn done off3 hDL hD₀ hi hyl hst' F' hn' hm' N' S' hJ
  by_cases hlt : i < zs.length
  · refine Sr.walks.item i _ _ _ hlt hst' fun v h₂ tk₂ hPv hst₂ hk₂ => ?_
    obtain ⟨b, hb, hV⟩ := hPv
    refine wpAny_assign_Name (wpAny_storeName_local (lookup_relabel_local hy) (hn'.at' fun o e => hk₂ _ o (by simpa using Ne.symm hCI) e) (fun h₃ hn₃ hs₃ => ?_) (by simp [compEnvC, relabel, hkind]))
    obtain ⟨oI, heI⟩ := Sr.it _ _ hst₂
    have heI₃ : h₃.get? I = some oI := (hs₃.2 I hCI).trans heI
    have S₃ : Stand src2 h₃ := fun p hp => (hs₃.2 _ (hsC p hp)).trans (hk₂ _ _ (by simpa using hsI p hp) (S' p hp))
    have hst₃ := Sr.stay _ _ _ _ hst₂ heI heI₃ S₃
    obtain ⟨oC, heC, hoC⟩ := ns_obj hn₃
    have F₃ : Fr h₀ L h₃ m := (fr_but F' hk₂ hIL hI₀).change hs₃ hCL hC₀
    have N₂ : News h₀ L h₂ ((D, lst (ys ++ ys')) :: news) := news_but N' hk₂ fun p hp => by
      rcases List.mem_cons.mp hp with rfl | hp
      · exact Ne.symm hDI
      · exact (off3 p hp).1
    have N₃ : News h₀ L h₃ ((C, oC) :: (I, oI) :: (D, lst (ys ++ ys')) :: news) := fun p hp => by
      rcases List.mem_cons.mp hp with rfl | hp
      · exact ⟨heC, hCL, hC₀⟩
      · rcases List.mem_cons.mp hp with rfl | hp
        · exact ⟨heI₃, Ne.symm hIL, hI₀⟩
        · have z := N₂ p hp
          refine ⟨hs₃.extBut _ _ ?_ z.1, z.2⟩
          rcases List.mem_cons.mp hp with rfl | hp
          · exact hDC
          · exact (off3 p hp).2.1
    refine wpAny_mono (turn b v oC _ oI (ys ++ ys') (List.mem_of_getElem? hb) hV hoC (by simp) (fun z hz => by simp [hz]; exact hm' z hz) h₃ _
      (fun yv s₄ => ∃ h₄ tk₄, s₄ = { s₁ with heap := h₄, toks := tk₄ } ∧ Fr h₀ L h₄ m ∧ News h₀ L h₄ ((C, oC) :: (I, oI) :: (D, lst (ys ++ ys')) :: news) ∧ G b yv)
      F₃ N₃ (fun yv h₄ tk₄ F₄ N₄ g => ⟨h₄, tk₄, rfl, F₄, N₄, g⟩)) (fun yv s₄ h₄ => ?_) fun _ _ e => e
    obtain ⟨h₄, tk₄, rfl, F₄, N₄, g⟩ := h₄
    have zC := (N₄ (C, oC) List.mem_cons_self).1
    have zI := (N₄ (I, oI) (List.mem_cons_of_mem _ List.mem_cons_self)).1
    have zD := (N₄ (D, lst (ys ++ ys')) (List.mem_cons_of_mem _ (List.mem_cons_of_mem _ List.mem_cons_self))).1
    have N₄' : News h₀ L h₄ news := fun p hp => N₄ p (List.mem_cons_of_mem _ (List.mem_cons_of_mem _ (List.mem_cons_of_mem _ hp)))
    have hS₄ : Stand src2 h₄ := fun p hp => (N₄' p (hsN p hp)).1
    have hst₄ : St (i + 1) h₄ := Sr.stay _ _ _ _ hst₃ heI₃ zI hS₄
    refine append_at (hsz := by show (ys ++ ys').toArray.size ≤ sizeLine; rw [List.size_toArray, List.length_append]; omega) zD fun h₅ hs₅ hD₅ => ?_
    have S₅ : Stand src2 h₅ := fun p hp => (hs₅.2 _ (hsD p hp)).trans (hS₄ p hp)
    refine ⟨zs.length + 1 - (i + 1), by omega, h₅, tk₄, i + 1, ys' ++ [yv], _, rfl, hlt, rfl, by rw [List.length_append, List.length_singleton, hyl], Sr.stay _ _ _ _ hst₄ zI ((hs₅.2 _ hDI).trans zI) S₅, F₄.change hs₅ hDL hD₀,
      (hoC.ns zC).sameBut hs₅ (Ne.symm hDC), fun z hz => by simp [hz]; exact hm' z hz, fun p hp => ?_, S₅, ?_⟩
    · rcases List.mem_cons.mp hp with rfl | hp
      · exact ⟨hD₅.trans (congrArg some (by rw [← List.append_assoc]; exact lst_snoc (ys ++ ys') yv)), hDL, hD₀⟩
      · exact ⟨hs₅.extBut _ _ (off3 p hp).2.2 (N₄' p hp).1, (N₄' p hp).2⟩
    · rw [List.take_add_one, hb]
      exact hJ.snoc g
  · have hil : i = zs.length := Nat.le_antisymm hi (Nat.not_lt.mp hlt)
    rw [hil] at hst' hJ
    refine Sr.walks.done _ _ _ hst' fun h₂ tk₂ hk₂ => ?_
    rw [List.take_length] at hJ
    exact done ys' h₂ tk₂ m' hJ (fr_but F' hk₂ hIL hI₀) (hn'.at' fun o e => hk₂ _ o (by simpa using Ne.symm hCI) e) (news_but N' hk₂ fun p hp => by
      rcases List.mem_cons.mp hp with rfl | hp
      · exact Ne.symm hDI
      · exact (off3 p hp).1)
theorem all : ∀ a0 a1 a2 a3 a4, comp_inner_sb2.1 a0 a1 a2 a3 a4 := by
  have q1 : (fun q : (Heap) × (Nat) × (Nat) × (List Value) × (Str → Option Value) × Unit => comp_inner_sb2.1 q.1 q.2.1 q.2.2.1 q.2.2.2.1 q.2.2.2.2.1) (pick ⟨⟨default, default, default, default, default, ()⟩⟩ fun q => comp_inner_sb2.1 q.1 q.2.1 q.2.2.1 q.2.2.2.1 q.2.2.2.2.1) := by with_unfolding_all exact main
  exact fun a0 a1 a2 a3 a4 => pick_spec (P := fun q : (Heap) × (Nat) × (Nat) × (List Value) × (Str → Option Value) × Unit => comp_inner_sb2.1 q.1 q.2.1 q.2.2.1 q.2.2.2.1 q.2.2.2.2.1) (ne := ⟨⟨default, default, default, default, default, ()⟩⟩) q1 ⟨a0, a1, a2, a3, a4, ()⟩
end go
theorem main : comp_inner_sb1.1 prog w A R s₁ h₀ L m env elt i1 i2 x y px py pos scope cl β zs V2 src2 news I C D fp St h tk mC ys G := comp_inner_sb2.2 go.all
theorem all : ∀ a0 a1 a2 a3 a4 a5 a6 a7 a8 a9 a10 a11 a12 a13 a14 a15 a16 a17 a18 a19 a20 a21 a22 a23 a24 a25 a26 a27 a28 a29 a30 a31 a32 a33, comp_inner_sb1.1 a0 a1 a2 a3 a4 a5 a6 a7 a8 a9 a10 a11 a12 a13 a14 a15 a16 a17 a18 a19 a20 a21 a22 a23 a24 a25 a26 a27 a28 a29 a30 a31 a32 a33 := by
  have q1 : (fun q : (Program) × (World) × (Around) × (Result → Shared → Prop) × (Shared) × (Heap) × (Addr) × (Str → Option Value) × (Env) × (PySem.Expr) × (PySem.Expr) × (PySem.Expr) × (Str) × (Str) × (Pos) × (Pos) × (Pos) × (Scope) × (List (Str × Addr)) × (β : Type) × (List β) × (β → Value → Prop) × (List (Addr × Obj)) × (List (Addr × Obj)) × (Addr) × (Addr) × (Addr) × (List Addr) × (Nat → Heap → Prop) × (Heap) × (Nat) × (Str → Option Value) × (List Value) × (β → Value → Prop) × Unit => comp_inner_sb1.1 q.1 q.2.1 q.2.2.1 q.2.2.2.1 q.2.2.2.2.1 q.2.2.2.2.2.1 q.2.2.2.2.2.2.1 q.2.2.2.2.2.2.2.1 q.2.2.2.2.2.2.2.2.1 q.2.2.2.2.2.2.2.2.2.1 q.2.2.2.2.2.2.2.2.2.2.1 q.2.2.2.2.2.2.2.2.2.2.2.1 q.2.2.2.2.2.2.2.2.2.2.2.2.1 q.2.2.2.2.2.2.2.2.2.2.2.2.2.1 q.2.2.2.2.2.2.2.2.2.2.2.2.2.2.1 q.2.2.2.2.2.2.2.2.2.2.2.2.2.2.2.1 q.2.2.2.2.2.2.2.2.2.2.2.2.2.2.2.2.1 q.2.2.2.2.2.2.2.2.2.2.2.2.2.2.2.2.2.1 q.2.2.2.2.2.2.2.2.2.2.2.2.2.2.2.2.2.2.1 q.2.2.2.2.2.2.2.2.2.2.2.2.2.2.2.2.2.2.2.1 q.2.2.2.2.2.2.2.2.2.2.2.2.2.2.2.2.2.2.2.2.1 q.2.2.2.2.2.2.2.2.2.2.2.2.2.2.2.2.2.2.2.2.2.1 q.2.2.2.2.2.2.2.2.2.2.2.2.2.2.2.2.2.2.2.2.2.2.1 q.2.2.2.2.2.2.2.2.2.2.2.2.2.2.2.2.2.2.2.2.2.2.2.1 q.2.2.2.2.2.2.2.2.2.2.2.2.2.2.2.2.2.2.2.2.2.2.2.2.1 q.2.2.2.2.2.2.2.2.2.2.2.2.2.2.2.2.2.2.2.2.2.2.2.2.2.1 q.2.2.2.2.2.2.2.2.2.2.2.2.2.2.2.2.2.2.2.2.2.2.2.2.2.2.1 q.2.2.2.2.2.2.2.2.2.2.2.2.2.2.2.2.2.2.2.2.2.2.2.2.2.2.2.1 q.2.2.2.2.2.2.2.2.2.2.2.2.2.2.2.2.2.2.2.2.2.2.2.2.2.2.2.2.1 q.2.2.2.2.2.2.2.2.2.2.2.2.2.2.2.2.2.2.2.2.2.2.2.2.2.2.2.2.2.1 q.2.2.2.2.2.2.2.2.2.2.2.2.2.2.2.2.2.2.2.2.2.2.2.2.2.2.2.2.2.2.1 q.2.2.2.2.2.2.2.2.2.2.2.2.2.2.2.2.2.2.2.2.2.2.2.2.2.2.2.2.2.2.2.1 q.2.2.2.2.2.2.2.2.2.2.2.2.2.2.2.2.2.2.2.2.2.2.2.2.2.2.2.2.2.2.2.2.1 q.2.2.2.2.2.2.2.2.2.2.2.2.2.2.2.2.2.2.2.2.2.2.2.2.2.2.2.2.2.2.2.2.2.1) (pick ⟨⟨default, dW, dA, default, dS, default, default, default, default, default, default, default, default, default, default, default, default, default, default, PUnit, default, default, default, default, default, default, default, default, default, default, default, default, default, default, ()⟩⟩ fun q => comp_inner_sb1.1 q.1 q.2.1 q.2.2.1 q.2.2.2.1 q.2.2.2.2.1 q.2.2.2.2.2.1 q.2.2.2.2.2.2.1 q.2.2.2.2.2.2.2.1 q.2.2.2.2.2.2.2.2.1 q.2.2.2.2.2.2.2.2.2.1 q.2.2.2.2.2.2.2.2.2.2.1 q.2.2.2.2.2.2.2.2.2.2.2.1 q.2.2.2.2.2.2.2.2.2.2.2.2.1 q.2.2.2.2.2.2.2.2.2.2.2.2.2.1 q.2.2.2.2.2.2.2.2.2.2.2.2.2.2.1 q.2.2.2.2.2.2.2.2.2.2.2.2.2.2.2.1 q.2.2.2.2.2.2.2.2.2.2.2.2.2.2.2.2.1 q.2.2.2.2.2.2.2.2.2.2.2.2.2.2.2.2.2.1 q.2.2.2.2.2.2.2.2.2.2.2.2.2.2.2.2.2.2.1 q.2.2.2.2.2.2.2.2.2.2.2.2.2.2.2.2.2.2.2.1 q.2.2.2.2.2.2.2.2.2.2.2.2.2.2.2.2.2.2.2.2.1 q.2.2.2.2.2.2.2.2.2.2.2.2.2.2.2.2.2.2.2.2.2.1 q.2.2.2.2.2.2.2.2.2.2.2.2.2.2.2.2.2.2.2.2.2.2.1 q.2.2.2.2.2.2.2.2.2.2.2.2.2.2.2.2.2.2.2.2.2.2.2.1 q.2.2.2.2.2.2.2.2.2.2.2.2.2.2.2.2.2.2.2.2.2.2.2.2.1 q.2.2.2.2.2.2.2.2.2.2.2.2.2.2.2.2.2.2.2.2.2.2.2.2.2.1 q.2.2.2.2.2.2.2.2.2.2.2.2.2.2.2.2.2.2.2.2.2.2.2.2.2.2.1 q.2.2.2.2.2.2.2.2.2.2.2.2.2.2.2.2.2.2.2.2.2.2.2.2.2.2.2.1 q.2.2.2.2.2.2.2.2.2.2.2.2.2.2.2.2.2.2.2.2.2.2.2.2.2.2.2.2.1 q.2.2.2.2.2.2.2.2.2.2.2.2.2.2.2.2.2.2.2.2.2.2.2.2.2.2.2.2.2.1 q.2.2.2.2.2.2.2.2.2.2.2.2.2.2.2.2.2.2.2.2.2.2.2.2.2.2.2.2.2.2.1 q.2.2.2.2.2.2.2.2.2.2.2.2.2.2.2.2.2.2.2.2.2.2.2.2.2.2.2.2.2.2.2.1 q.2.2.2.2.2.2.2.2.2.2.2.2.2.2.2.2.2.2.2.2.2.2.2.2.2.2.2.2.2.2.2.2.1 q.2.2.2.2.2.2.2.2.2.2.2.2.2.2.2.2.2.2.2.2.2.2.2.2.2.2.2.2.2.2.2.2.2.1) := by with_unfolding_all exact main
  exact fun a0 a1 a2 a3 a4 a5 a6 a7 a8 a9 a10 a11 a12 a13 a14 a15 a16 a17 a18 a19 a20 a21 a22 a23 a24 a25 a26 a27 a28 a29 a30 a31 a32 a33 => pick_spec (P := fun q : (Program) × (World) × (Around) × (Result → Shared → Prop) × (Shared) × (Heap) × (Addr) × (Str → Option Value) × (Env) × (PySem.Expr) × (PySem.Expr) × (PySem.Expr) × (Str) × (Str) × (Pos) × (Pos) × (Pos) × (Scope) × (List (Str × Addr)) × (β : Type) × (List β) × (β → Value → Prop) × (List (Addr × Obj)) × (List (Addr × Obj)) × (Addr) × (Addr) × (Addr) × (List Addr) × (Nat → Heap → Prop) × (Heap) × (Nat) × (Str → Option Value) × (List Value) × (β → Value → Prop) × Unit => comp_inner_sb1.1 q.1 q.2.1 q.2.2.1 q.2.2.2.1 q.2.2.2.2.1 q.2.2.2.2.2.1 q.2.2.2.2.2.2.1 q.2.2.2.2.2.2.2.1 q.2.2.2.2.2.2.2.2.1 q.2.2.2.2.2.2.2.2.2.1 q.2.2.2.2.2.2.2.2.2.2.1 q.2.2.2.2.2.2.2.2.2.2.2.1 q.2.2.2.2.2.2.2.2.2.2.2.2.1 q.2.2.2.2.2.2.2.2.2.2.2.2.2.1 q.2.2.2.2.2.2.2.2.2.2.2.2.2.2.1 q.2.2.2.2.2.2.2.2.2.2.2.2.2.2.2.1 q.2.2.2.2.2.2.2.2.2.2.2.2.2.2.2.2.1 q.2.2.2.2.2.2.2.2.2.2.2.2.2.2.2.2.2.1 q.2.2.2.2.2.2.2.2.2.2.2.2.2.2.2.2.2.2.1 q.2.2.2.2.2.2.2.2.2.2.2.2.2.2.2.2.2.2.2.1 q.2.2.2.2.2.2.2.2.2.2.2.2.2.2.2.2.2.2.2.2.1 q.2.2.2.2.2.2.2.2.2.2.2.2.2.2.2.2.2.2.2.2.2.1 q.2.2.2.2.2.2.2.2.2.2.2.2.2.2.2.2.2.2.2.2.2.2.1 q.2.2.2.2.2.2.2.2.2.2.2.2.2.2.2.2.2.2.2.2.2.2.2.1 q.2.2.2.2.2.2.2.2.2.2.2.2.2.2.2.2.2.2.2.2.2.2.2.2.1 q.2.2.2.2.2.2.2.2.2.2.2.2.2.2.2.2.2.2.2.2.2.2.2.2.2.1 q.2.2.2.2.2.2.2.2.2.2.2.2.2.2.2.2.2.2.2.2.2.2.2.2.2.2.1 q.2.2.2.2.2.2.2.2.2.2.2.2.2.2.2.2.2.2.2.2.2.2.2.2.2.2.2.1 q.2.2.2.2.2.2.2.2.2.2.2.2.2.2.2.2.2.2.2.2.2.2.2.2.2.2.2.2.1 q.2.2.2.2.2.2.2.2.2.2.2.2.2.2.2.2.2.2.2.2.2.2.2.2.2.2.2.2.2.1 q.2.2.2.2.2.2.2.2.2.2.2.2.2.2.2.2.2.2.2.2.2.2.2.2.2.2.2.2.2.2.1 q.2.2.2.2.2.2.2.2.2.2.2.2.2.2.2.2.2.2.2.2.2.2.2.2.2.2.2.2.2.2.2.1 q.2.2.2.2.2.2.2.2.2.2.2.2.2.2.2.2.2.2.2.2.2.2.2.2.2.2.2.2.2.2.2.2.1 q.2.2.2.2.2.2.2.2.2.2.2.2.2.2.2.2.2.2.2.2.2.2.2.2.2.2.2.2.2.2.2.2.2.1) (ne := ⟨⟨default, dW, dA, default, dS, default, default, default, default, default, default, default, default, default, default, default, default, default, default, PUnit, default, default, default, default, default, default, default, default, default, default, default, default, default, default, ()⟩⟩) q1 ⟨a0, a1, a2, a3, a4, a5, a6, a7, a8, a9, a10, a11, a12, a13, a14, a15, a16, a17, a18, a19, a20, a21, a22, a23, a24, a25, a26, a27, a28, a29, a30, a31, a32, a33, ()⟩
end comp_inner_en
end
section
variable {prog : Program} {w : World} {A : Around} {R : Result → Shared → Prop} {s₁ : Shared} {h₀ : Heap} {L : Addr} {m : Str → Option Value} {env : Env} {elt i1 i2 : PySem.Expr} {x y : Str} {px py pos : Pos} {scope : Scope} {cl : List (Str × Addr)}
theorem comp_inner {β : Type} {zs : List β} {V2 : β → Value → Prop} {src2 news : List (Addr × Obj)} {I C D : Addr} {fp : List Addr} {St : Nat → Heap → Prop} {h : Heap} {tk : Nat} {mC : Str → Option Value} {ys : List Value} (G : β → Value → Prop)
    (Sr : Source prog w A zs V2 src2 I fp St) (hst : St 0 h) (F : Fr h₀ L h m) (hn : h.Ns C mC) (N : News h₀ L h ((D, lst ys) :: news)) (off : Off3 I C D news) (hCI : I ≠ C) (hDI : I ≠ D) (hDC : D ≠ C) (hIL : L ≠ I) (hI₀ : h₀.get? I = none) (hCL : C ≠ L) (hC₀ : h₀.get? C = none)
    (S : Stand src2 h) (hsI : ∀ p ∈ src2, p.1 ≠ I) (hsC : ∀ p ∈ src2, p.1 ≠ C) (hsD : ∀ p ∈ src2, p.1 ≠ D) (hsN : ∀ p ∈ src2, p ∈ news) (hsz : ys.length + zs.length ≤ sizeLine) (hkind : scope.kind = .function) (hy : scope.names.lookup y = some .local)
    (turn : ∀ b v oC m₂ oI ys', b ∈ zs → V2 b v → NsObj oC m₂ → m₂ y = some v → (∀ z, z ≠ y → m₂ z = mC z) → EltOk prog w A h₀ L m env elt scope cl s₁ C oC ((I, oI) :: (D, lst ys') :: news) (G b))
    (done : ∀ ys2 h' tk' m', Rel2 G zs ys2 → Fr h₀ L h' m → h'.Ns C m' → News h₀ L h' ((D, lst (ys ++ ys2)) :: news) → R (.ok .next) { s₁ with heap := h', toks := tk' }) :
    codeAny (model prog w) A (.compLoop (Ex2 elt i1 i2 (.Name x px) (.Name y py) scope pos) 1 (.ref I) (.ref D) (compEnvC scope cl C env)) R { s₁ with heap := h, toks := tk } :=
  comp_inner_sb1.2 comp_inner_en.all prog w A R s₁ h₀ L m env elt i1 i2 x y px py pos scope cl β zs V2 src2 news I C D fp St h tk mC ys G Sr hst F hn N off hCI hDI hDC hIL hI₀ hCL hC₀ S hsI hsC hsD hsN hsz hkind hy turn done
end
theorem Rel2.map {α β : Type} {G : β → Value → Prop} (f : α → β) : ∀ {l : List α} {vs : List Value}, Rel2 (fun a v => G (f a) v) l vs → Rel2 G (l.map f) vs
  | [], [], _ => trivial
  | _ :: _, _ :: _, x => ⟨x.1, Rel2.map f x.2⟩

section
variable {prog : Program} {w : World} {A : Around} {E : Value → Shared → Prop} {s : Shared} {h₀ : Heap} {L : Addr} {m : Str → Option Value} {env : Env} {outer : List Env} {elt i1 i2 : PySem.Expr} {x y : Str} {px py pos : Pos} {scope : Scope} {cl : List (Str × Addr)}

end
section
noncomputable def comp2_expr_S : Prop := (∀ (prog : Program) (w : World) (A : Around) (E : Value → Shared → Prop) (s : Shared) (h₀ : Heap) (L : Addr) (m : Str → Option Value) (env : Env) (elt : PySem.Expr) (i1 : PySem.Expr) (i2 : PySem.Expr) (x : Str) (y : Str) (px : Pos) (py : Pos) (pos : Pos) (scope : Scope) (cl : List (Str × Addr)) (α : Type) (β : Type) (xs : List α) (V : α → Value → Prop) (src : List (Addr × Obj)) (news : List (Addr × Obj)) (zs : List β) (V2 : β → Value → Prop) (G : α → β → Value → Prop) (Q : Value → Shared → Prop) (_F₀ : Fr h₀ L s.heap m) (hkind : scope.kind = .function) (hf : env.frame = some L) (hclos : closureFor scope env = pure cl) (hcell : ∀ y ∈ scope.names, y.2 ≠ .cell) (hnames : ∀ y ∈ scope.names, y.2 = .local → scope.names.lookup y.1 = some .local) (hx : scope.names.lookup x = some .local) (hy : scope.names.lookup y = some .local) (hxy : x ≠ y) (h : wpAny (model prog w) A (eval i1 env) (fun xv s₁ => IterOf prog w A xv s₁.heap xs V src ∧ Fr h₀ L s₁.heap m ∧ News h₀ L s₁.heap news ∧ (∀ p ∈ src, h₀.get? p.1 = some p.2 ∨ p ∈ news) ∧ xs.length * zs.length ≤ sizeLine ∧
      (∀ C oC h tk nw Q', Fr h₀ L h m → News h₀ L h ((C, oC) :: nw) →
        (∀ yv T oT h' tk', (∀ es n, oT.data ≠ .dict es n) → Fr h₀ L h' m → News h₀ L h' ((T, oT) :: (C, oC) :: nw) → (∀ q ∈ (C, oC) :: nw, T ≠ q.1) → IterOf prog w A yv h' zs V2 [(T, oT)] → Q' yv { s₁ with heap := h', toks := tk' }) →
        wpAny (model prog w) A (eval i2 (compEnvC scope cl C env)) Q' NoE { s₁ with heap := h, toks := tk }) ∧
      (∀ a v b u C oC m₂ nw, a ∈ xs → V a v → b ∈ zs → V2 b u → NsObj oC m₂ → m₂ x = some v → m₂ y = some u → (∀ p ∈ news, p ∈ nw) → EltOk prog w A h₀ L m env elt scope cl s₁ C oC nw (G a b)) ∧
      (∀ ys, Rel2 (fun p y => G p.1 p.2 y) (xs.flatMap fun a => zs.map fun b => (a, b)) ys → FinX h₀ L m Q s₁ ys news)) E s) (hs : ∀ x, foldedSetIterable i1 env x = pure x) (hs2 : ∀ C x, foldedSetIterable i2 (compEnvC scope cl C env) x = pure x), wpAny (model prog w) A (eval (Ex2 elt i1 i2 (.Name x px) (.Name y py) scope pos) env) Q E s)
noncomputable def comp2_expr_sb3 : { pQ : (Program) → (World) → (Around) → (Value → Shared → Prop) → (Heap) → (Addr) → (Str → Option Value) → (Env) → (PySem.Expr) → (PySem.Expr) → (PySem.Expr) → (Str) → (Str) → (Pos) → (Pos) → (Pos) → (Scope) → (List (Str × Addr)) → (α : Type) → (β : Type) → (List α) → (α → Value → Prop) → (List (Addr × Obj)) → (List (Addr × Obj)) → (List β) → (β → Value → Prop) → (α → β → Value → Prop) → (Value → Shared → Prop) → (Shared) → (Value) → Prop // (∀ (prog : Program) (w : World) (A : Around) (E : Value → Shared → Prop) (h₀ : Heap) (L : Addr) (m : Str → Option Value) (env : Env) (elt : PySem.Expr) (i1 : PySem.Expr) (i2 : PySem.Expr) (x : Str) (y : Str) (px : Pos) (py : Pos) (pos : Pos) (scope : Scope) (cl : List (Str × Addr)) (α : Type) (β : Type) (xs : List α) (V : α → Value → Prop) (src : List (Addr × Obj)) (news : List (Addr × Obj)) (zs : List β) (V2 : β → Value → Prop) (G : α → β → Value → Prop) (Q : Value → Shared → Prop) (s₁ : Shared) (xv : Value), pQ prog w A E h₀ L m env elt i1 i2 x y px py pos scope cl α β xs V src news zs V2 G Q s₁ xv) → comp2_expr_S } := ⟨_, by
  intro hP_e0
  intro prog w A E s h₀ L m env elt i1 i2 x y px py pos scope cl α β xs V src news zs V2 G Q _F₀ hkind hf hclos hcell hnames hx hy hxy h hs hs2
  show wpAny (model prog w) A (eval (.ListComp elt [⟨.Name x px, i1, [], 0⟩, ⟨.Name y py, i2, [], 0⟩] scope pos) env) Q E s
  rw [eval_ListComp]
  refine wpAny_comprehension_free (use := none) rfl hs hclos hkind hnames (wpAny_mono h (fun xv s₁ h₁ => ?_) fun _ _ e => e)
  revert hkind hcell hx hy hxy hs2 h₁; exact hP_e0 prog w A E h₀ L m env elt i1 i2 x y px py pos scope cl α β xs V src news zs V2 G Q s₁ xv⟩
namespace comp2_expr_e0
noncomputable def c0 : (Program) × (World) × (Around) × (Value → Shared → Prop) × (Heap) × (Addr) × (Str → Option Value) × (Env) × (PySem.Expr) × (PySem.Expr) × (PySem.Expr) × (Str) × (Str) × (Pos) × (Pos) × (Pos) × (Scope) × (List (Str × Addr)) × (α : Type) × (β : Type) × (List α) × (α → Value → Prop) × (List (Addr × Obj)) × (List (Addr × Obj)) × (List β) × (β → Value → Prop) × (α → β → Value → Prop) × (Value → Shared → Prop) × (Shared) × (Value) × Unit := pick ⟨⟨default, dW, dA, default, default, default, default, default, default, default, default, default, default, default, default, default, default, default, PUnit, PUnit, default, default, default, default, default, default, default, default, dS, default, ()⟩⟩ fun q => comp2_expr_sb3.1 q.1 q.2.1 q.2.2.1 q.2.2.2.1 q.2.2.2.2.1 q.2.2.2.2.2.1 q.2.2.2.2.2.2.1 q.2.2.2.2.2.2.2.1 q.2.2.2.2.2.2.2.2.1 q.2.2.2.2.2.2.2.2.2.1 q.2.2.2.2.2.2.2.2.2.2.1 q.2.2.2.2.2.2.2.2.2.2.2.1 q.2.2.2.2.2.2.2.2.2.2.2.2.1 q.2.2.2.2.2.2.2.2.2.2.2.2.2.1 q.2.2.2.2.2.2.2.2.2.2.2.2.2.2.1 q.2.2.2.2.2.2.2.2.2.2.2.2.2.2.2.1 q.2.2.2.2.2.2.2.2.2.2.2.2.2.2.2.2.1 q.2.2.2.2.2.2.2.2.2.2.2.2.2.2.2.2.2.1 q.2.2.2.2.2.2.2.2.2.2.2.2.2.2.2.2.2.2.1 q.2.2.2.2.2.2.2.2.2.2.2.2.2.2.2.2.2.2.2.1 q.2.2.2.2.2.2.2.2.2.2.2.2.2.2.2.2.2.2.2.2.1 q.2.2.2.2.2.2.2.2.2.2.2.2.2.2.2.2.2.2.2.2.2.1 q.2.2.2.2.2.2.2.2.2.2.2.2.2.2.2.2.2.2.2.2.2.2.1 q.2.2.2.2.2.2.2.2.2.2.2.2.2.2.2.2.2.2.2.2.2.2.2.1 q.2.2.2.2.2.2.2.2.2.2.2.2.2.2.2.2.2.2.2.2.2.2.2.2.1 q.2.2.2.2.2.2.2.2.2.2.2.2.2.2.2.2.2.2.2.2.2.2.2.2.2.1 q.2.2.2.2.2.2.2.2.2.2.2.2.2.2.2.2.2.2.2.2.2.2.2.2.2.2.1 q.2.2.2.2.2.2.2.2.2.2.2.2.2.2.2.2.2.2.2.2.2.2.2.2.2.2.2.1 q.2.2.2.2.2.2.2.2.2.2.2.2.2.2.2.2.2.2.2.2.2.2.2.2.2.2.2.2.1 q.2.2.2.2.2.2.2.2.2.2.2.2.2.2.2.2.2.2.2.2.2.2.2.2.2.2.2.2.2.1
@[irreducible] noncomputable def prog : Program := c0.1
@[irreducible] noncomputable def w : World := c0.2.1
@[irreducible] noncomputable def A : Around := c0.2.2.1
@[irreducible] noncomputable def E : Value → Shared → Prop := c0.2.2.2.1
@[irreducible] noncomputable def h₀ : Heap := c0.2.2.2.2.1
@[irreducible] noncomputable def L : Addr := c0.2.2.2.2.2.1
@[irreducible] noncomputable def m : Str → Option Value := c0.2.2.2.2.2.2.1
@[irreducible] noncomputable def env : Env := c0.2.2.2.2.2.2.2.1
@[irreducible] noncomputable def elt : PySem.Expr := c0.2.2.2.2.2.2.2.2.1
@[irreducible] noncomputable def i1 : PySem.Expr := c0.2.2.2.2.2.2.2.2.2.1
@[irreducible] noncomputable def i2 : PySem.Expr := c0.2.2.2.2.2.2.2.2.2.2.1
@[irreducible] noncomputable def x : Str := c0.2.2.2.2.2.2.2.2.2.2.2.1
@[irreducible] noncomputable def y : Str := c0.2.2.2.2.2.2.2.2.2.2.2.2.1
@[irreducible] noncomputable def px : Pos := c0.2.2.2.2.2.2.2.2.2.2.2.2.2.1
@[irreducible] noncomputable def py : Pos := c0.2.2.2.2.2.2.2.2.2.2.2.2.2.2.1
@[irreducible] noncomputable def pos : Pos := c0.2.2.2.2.2.2.2.2.2.2.2.2.2.2.2.1
@[irreducible] noncomputable def scope : Scope := c0.2.2.2.2.2.2.2.2.2.2.2.2.2.2.2.2.1
@[irreducible] noncomputable def cl : List (Str × Addr) := c0.2.2.2.2.2.2.2.2.2.2.2.2.2.2.2.2.2.1
@[irreducible] noncomputable def α : Type := c0.2.2.2.2.2.2.2.2.2.2.2.2.2.2.2.2.2.2.1
@[irreducible] noncomputable def β : Type := c0.2.2.2.2.2.2.2.2.2.2.2.2.2.2.2.2.2.2.2.1
@[irreducible] noncomputable def xs : List α := by with_unfolding_all exact c0.2.2.2.2.2.2.2.2.2.2.2.2.2.2.2.2.2.2.2.2.1
@[irreducible] noncomputable def V : α → Value → Prop := by with_unfolding_all exact c0.2.2.2.2.2.2.2.2.2.2.2.2.2.2.2.2.2.2.2.2.2.1
@[irreducible] noncomputable def src : List (Addr × Obj) := c0.2.2.2.2.2.2.2.2.2.2.2.2.2.2.2.2.2.2.2.2.2.2.1
@[irreducible] noncomputable def news : List (Addr × Obj) := c0.2.2.2.2.2.2.2.2.2.2.2.2.2.2.2.2.2.2.2.2.2.2.2.1
@[irreducible] noncomputable def zs : List β := by with_unfolding_all exact c0.2.2.2.2.2.2.2.2.2.2.2.2.2.2.2.2.2.2.2.2.2.2.2.2.1
@[irreducible] noncomputable def V2 : β → Value → Prop := by with_unfolding_all exact c0.2.2.2.2.2.2.2.2.2.2.2.2.2.2.2.2.2.2.2.2.2.2.2.2.2.1
@[irreducible] noncomputable def G : α → β → Value → Prop := by with_unfolding_all exact c0.2.2.2.2.2.2.2.2.2.2.2.2.2.2.2.2.2.2.2.2.2.2.2.2.2.2.1
@[irreducible] noncomputable def Q : Value → Shared → Prop := c0.2.2.2.2.2.2.2.2.2.2.2.2.2.2.2.2.2.2.2.2.2.2.2.2.2.2.2.1
@[irreducible] noncomputable def s₁ : Shared := c0.2.2.2.2.2.2.2.2.2.2.2.2.2.2.2.2.2.2.2.2.2.2.2.2.2.2.2.2.1
@[irreducible] noncomputable def xv : Value := c0.2.2.2.2.2.2.2.2.2.2.2.2.2.2.2.2.2.2.2.2.2.2.2.2.2.2.2.2.2.1
noncomputable def comp2_expr_sb4 : { pQ : (List Addr) → (Nat → Heap → Prop) → (Addr) → (Heap) → (Heap) → (Heap) → Prop // (∀ (fp : List Addr) (St : Nat → Heap → Prop) (I : Addr) (hp₂ : Heap) (h₁ : Heap) (H2 : Heap), pQ fp St I hp₂ h₁ H2) → comp2_expr_sb3.1 prog w A E h₀ L m env elt i1 i2 x y px py pos scope cl α β xs V src news zs V2 G Q s₁ xv } := ⟨_, by
  intro hP_go
  intro hkind hcell hx hy hxy hs2 h₁
  obtain ⟨⟨h1, h1d, h2⟩, F₀, N₀, hsrc, hsz, inner, turn, done⟩ := h₁
  refine h2 s₁ _ _ rfl fun o fp St Sr hfree hnd hfp hst₀ => ?_
  generalize hI : s₁.heap.objs.size = I at Sr hfp hst₀
  have hIL : L ≠ I := by rw [← hI]; exact Nat.ne_of_lt F₀.ns.lt
  have hI₀ : h₀.get? I = none := by rw [← hI]; exact next_is_new F₀
  have hsrcI : ∀ p ∈ src, p.1 ≠ I := fun p hp => by rw [← hI]; exact Nat.ne_of_lt (Heap.lt_size (h1 p hp))
  have F : Fr h₀ L (s₁.heap.push o) m := F₀.push _
  have N : News h₀ L (s₁.heap.push o) news := fun p hp => ⟨Heap.get?_push_of_some _ (N₀ p hp).1, (N₀ p hp).2⟩
  have off : ∀ p ∈ news, p.1 ≠ I := fun p hp => by rw [← hI]; exact Nat.ne_of_lt (Heap.lt_size (N₀ p hp).1)
  have S₀ : Stand src (s₁.heap.push o) := fun p hp => Heap.get?_push_of_some _ (h1 p hp)
  have hIobj : ∃ oI, (s₁.heap.push o).get? I = some oI := Sr.it _ _ hst₀
  generalize hs₂ : s₁.heap.push o = hp₂ at F N S₀ hst₀ hIobj
  refine wpAny_newObj_type (wpAny_newFunctionEnv hcell (by intro y hy; simp at hy) (fun h₁ hns₁ hsb₁ => ?_) hkind)
  dsimp only at hns₁ hsb₁ ⊢
  generalize hH2 : hp₂.push { cls := .type "list", dict := none, data := .seq ([] : List Value).toArray } = H2 at hns₁ hsb₁ ⊢
  have hC : H2.objs.size = hp₂.objs.size + 1 := by rw [← hH2, Heap.size_push]
  have hDC : hp₂.objs.size ≠ H2.objs.size := by rw [hC]; exact Nat.ne_of_lt (Nat.lt_succ_self _)
  have below : ∀ b, b < hp₂.objs.size → b ≠ H2.objs.size ∧ b ≠ hp₂.objs.size := fun b hb => ⟨by rw [hC]; exact Nat.ne_of_lt (Nat.lt_succ_of_lt hb), Nat.ne_of_lt hb⟩
  have hIlt : I < hp₂.objs.size := by obtain ⟨oI, hoI⟩ := hIobj; exact Heap.lt_size hoI
  have old : ∀ b o, hp₂.get? b = some o → h₁.get? b = some o := fun b o e => hsb₁.extBut b o (below b (Heap.lt_size e)).1 (Heap.get?_push_of_some _ (hH2 ▸ Heap.get?_push_of_some _ e))
  have hacc : h₁.get? hp₂.objs.size = some (lst []) := hsb₁.extBut _ _ hDC (Heap.get?_push_of_some _ (hH2 ▸ Heap.get?_push_size _ rfl))
  have fresh : ∀ a, hp₂.objs.size ≤ a → hp₂.get? a = none := fun a ha => by
    cases e : hp₂.get? a with
    | none => rfl
    | some o' => exact absurd (Heap.lt_size e) (Nat.not_lt.mpr ha)
  have fresh₀ : ∀ a, hp₂.objs.size ≤ a → h₀.get? a = none := fun a ha => by
    cases e : h₀.get? a with
    | none => rfl
    | some o' => have := F.keep a o' e; rw [fresh a ha] at this; cases this
  have hD₀ : h₀.get? hp₂.objs.size = none := fresh₀ _ (Nat.le_refl _)
  have hC₀ : h₀.get? H2.objs.size = none := fresh₀ _ (by rw [hC]; exact Nat.le_succ _)
  have hLlt : L < hp₂.objs.size := F.ns.lt
  have hDL : hp₂.objs.size ≠ L := Ne.symm (below L hLlt).2
  have hCL : H2.objs.size ≠ L := Ne.symm (below L hLlt).1
  have hCI : I ≠ H2.objs.size := (below I hIlt).1
  have hDI : I ≠ hp₂.objs.size := (below I hIlt).2
  have hCsrc : ∀ p ∈ src, p.1 ≠ H2.objs.size := fun p hp => (below _ (Heap.lt_size (S₀ p hp))).1
  have off₀ : Off3 I H2.objs.size hp₂.objs.size news := Off3.of fun p hp => ⟨off p hp, (below _ (Heap.lt_size (N p hp).1)).1, (below _ (Heap.lt_size (N p hp).1)).2⟩
  have off3 := off₀.mem
  obtain ⟨oI₀, heI₀⟩ := hIobj
  have S₁ : Stand src h₁ := fun p hp => old _ _ (S₀ p hp)
  have hst₁ : St 0 h₁ := Sr.stay _ _ _ _ hst₀ heI₀ (old _ _ heI₀) S₁
  have std : ∀ h', Fr h₀ L h' m → News h₀ L h' news → Stand src h' := fun h' F' N' p hp => by
    rcases hsrc p hp with e | e
    · exact F'.keep _ _ e
    · exact (N' p e).1
  revert hkind hx hy hxy hs2 hsz inner turn done Sr hIL hI₀ hsrcI F N hns₁ hDC old hacc hD₀ hC₀ hDL hCL hCI hDI hCsrc off₀ off3 S₁ hst₁ std; exact hP_go fp St I hp₂ h₁ H2⟩
namespace go
noncomputable def c0 : (List Addr) × (Nat → Heap → Prop) × (Addr) × (Heap) × (Heap) × (Heap) × Unit := pick ⟨⟨default, default, default, default, default, default, ()⟩⟩ fun q => comp2_expr_sb4.1 q.1 q.2.1 q.2.2.1 q.2.2.2.1 q.2.2.2.2.1 q.2.2.2.2.2.1
@[irreducible] noncomputable def fp : List Addr := c0.1
@[irreducible] noncomputable def St : Nat → Heap → Prop := c0.2.1
@[irreducible] noncomputable def I : Addr := c0.2.2.1
@[irreducible] noncomputable def hp₂ : Heap := c0.2.2.2.1
@[irreducible] noncomputable def h₁ : Heap := c0.2.2.2.2.1
@[irreducible] noncomputable def H2 : Heap := c0.2.2.2.2.2.1
theorem main : comp2_expr_sb4.1 fp St I hp₂ h₁ H2 := by
  intro hkind hx hy hxy hs2 hsz inner turn done Sr hIL hI₀ hsrcI F N hns₁ hDC old hacc hD₀ hC₀ hDL hCL hCI hDI hCsrc off₀ off3 S₁ hst₁ std
  let GG : α × β → Value → Prop := fun p y => G p.1 p.2 y
  have loop : ∀ s₃ : Shared, s₃ = { s₁ with heap := h₁, toks := s₁.toks + ([] : List (Str × Value)).length } →
      codeAny (model prog w) A (.compLoop (Ex2 elt i1 i2 (.Name x px) (.Name y py) scope pos) 0 (.ref I) (.ref hp₂.objs.size) (compEnvC scope cl H2.objs.size env))
        (compPost (model prog w) A E none Q (.ref hp₂.objs.size) H2.objs.size) s₃ := by
    rintro s₃ rfl
    refine compLoop_two0
      (fun k s' => ∃ h' tk i ys m', s' = { s₁ with heap := h', toks := tk } ∧ i ≤ xs.length ∧ k = xs.length + 1 - i ∧ ys.length = i * zs.length ∧ St i h' ∧ Fr h₀ L h' m ∧ h'.Ns H2.objs.size m' ∧ News h₀ L h' ((hp₂.objs.size, lst ys) :: news) ∧
        Rel2 GG ((xs.take i).flatMap fun a => zs.map fun b => (a, b)) ys) ?_ (xs.length + 1)
      ⟨h₁, _, 0, [], _, rfl, Nat.zero_le _, rfl, (Nat.zero_mul _).symm, hst₁, F.keeps old, hns₁, fun p hp => ?_, trivial⟩ (hs := hs2 _)
    · rintro k s' ⟨h', tk, i, ys, m', rfl, hi, rfl, hyl, hst', F', hn', N', hJ⟩
      by_cases hlt : i < xs.length
      · refine Sr.walks.item i _ _ _ hlt hst' fun v h₂ tk₂ hPv hst₂ hk₂ => ?_
        obtain ⟨a, ha, hV⟩ := hPv
        refine wpAny_assign_Name (wpAny_storeName_local (lookup_relabel_local hx) (hn'.at' fun o e => hk₂ _ o (by simpa using Ne.symm hCI) e) (fun h₃ hn₃ hs₃ => ?_) (by simp [compEnvC, relabel, hkind]))
        obtain ⟨oI, heI⟩ := Sr.it _ _ hst₂
        have heI₃ : h₃.get? I = some oI := (hs₃.2 I hCI).trans heI
        obtain ⟨oC, heC, hoC⟩ := ns_obj hn₃
        have F₃ : Fr h₀ L h₃ m := (fr_but F' hk₂ hIL hI₀).change hs₃ hCL hC₀
        have N₂ : News h₀ L h₂ ((hp₂.objs.size, lst ys) :: news) := news_but N' hk₂ fun p hp => by
          rcases List.mem_cons.mp hp with rfl | hp
          · exact Ne.symm hDI
          · exact (off3 p hp).1
        have N₃ : News h₀ L h₃ ((H2.objs.size, oC) :: (I, oI) :: (hp₂.objs.size, lst ys) :: news) := fun p hp => by
          rcases List.mem_cons.mp hp with rfl | hp
          · exact ⟨heC, hCL, hC₀⟩
          · rcases List.mem_cons.mp hp with rfl | hp
            · exact ⟨heI₃, Ne.symm hIL, hI₀⟩
            · have z := N₂ p hp
              refine ⟨hs₃.extBut _ _ ?_ z.1, z.2⟩
              rcases List.mem_cons.mp hp with rfl | hp
              · exact hDC
              · exact (off3 p hp).2.1
        have S₃ : Stand src h₃ := fun p hp => (hs₃.2 _ (hCsrc p hp)).trans (hk₂ _ _ (by simpa using hsrcI p hp) (std h' F' (fun q hq => N' q (List.mem_cons_of_mem _ hq)) p hp))
        have hst₃ := Sr.stay _ _ _ _ hst₂ heI heI₃ S₃
        refine inner H2.objs.size oC h₃ _ _ _ F₃ N₃ fun yv T oT h₄ tk₄ hTd F₄ N₄ hT hit => ?_
        obtain ⟨g1, g1d, g2⟩ := hit
        refine g2 _ _ _ rfl fun o2 fp2 St2 Sr2 _ _ _ hstI2 => ?_
        generalize hI2 : h₄.objs.size = I2 at Sr2 hstI2
        have nI2 : ∀ b o, h₄.get? b = some o → b ≠ I2 := fun b o e => by rw [← hI2]; exact Nat.ne_of_lt (Heap.lt_size e)
        have hI2₀ : h₀.get? I2 = none := by rw [← hI2]; exact next_is_new F₄
        have F₅ : Fr h₀ L (h₄.push o2) m := F₄.push _
        have N₅ : News h₀ L (h₄.push o2) ((T, oT) :: (H2.objs.size, oC) :: (I, oI) :: (hp₂.objs.size, lst ys) :: news) := fun p hp => ⟨Heap.get?_push_of_some _ (N₄ p hp).1, (N₄ p hp).2⟩
        have hnC : (h₄.push o2).Ns H2.objs.size _ := hoC.ns (N₅ (H2.objs.size, oC) (by simp)).1
        have body : codeAny (model prog w) A (.compLoop (Ex2 elt i1 i2 (.Name x px) (.Name y py) scope pos) 1 (.ref I2) (.ref hp₂.objs.size) (compEnvC scope cl H2.objs.size env))
            (fun r s₅ => (∃ f, r = .ok f) ∧ ∃ k, k < xs.length + 1 - i ∧ ∃ h' tk i ys m', s₅ = { s₁ with heap := h', toks := tk } ∧ i ≤ xs.length ∧ k = xs.length + 1 - i ∧ ys.length = i * zs.length ∧ St i h' ∧ Fr h₀ L h' m ∧ h'.Ns H2.objs.size m' ∧ News h₀ L h' ((hp₂.objs.size, lst ys) :: news) ∧
              Rel2 GG ((xs.take i).flatMap fun a => zs.map fun b => (a, b)) ys) { s₁ with heap := h₄.push o2, toks := tk₄ } := by
          have zC := (N₄ (H2.objs.size, oC) (by simp)).1
          have zD := (N₄ (hp₂.objs.size, lst ys) (by simp)).1
          have zI := (N₄ (I, oI) (by simp)).1
          have zT := (N₄ (T, oT) (by simp)).1
          have szz : ys.length + zs.length ≤ sizeLine := by
            rw [hyl, ← Nat.succ_mul]
            exact Nat.le_trans (Nat.mul_le_mul_right _ hlt) hsz
          refine comp_inner (news := (T, oT) :: (I, oI) :: news) (G a) Sr2 hstI2 F₅ hnC (news_weak N₅ fun p hp => ?_) (Off3.of fun p hp => ?_) (Ne.symm (nI2 _ _ zC)) (Ne.symm (nI2 _ _ zD)) hDC (by
            obtain ⟨oL, _, _, hL, _⟩ := F₄.ns
            exact nI2 _ _ hL) hI2₀ hCL hC₀ (fun p hp => ?_) (fun p hp => ?_) (fun p hp => ?_) (fun p hp => ?_) (fun p hp => ?_) szz hkind hy ?_ ?_
          · simp only [List.mem_cons] at hp ⊢
            rcases hp with h | h | h | h <;> simp [h]
          · have key : p.1 ≠ H2.objs.size ∧ p.1 ≠ hp₂.objs.size ∧ h₄.get? p.1 = some p.2 := by
              rcases List.mem_cons.mp hp with rfl | hp
              · exact ⟨hT (H2.objs.size, oC) (by simp), hT (hp₂.objs.size, lst ys) (by simp), zT⟩
              · rcases List.mem_cons.mp hp with rfl | hp
                · exact ⟨hCI, hDI, zI⟩
                · exact ⟨(off3 p hp).2.1, (off3 p hp).2.2, (N₄ p (by simp [hp])).1⟩
            exact ⟨nI2 _ _ key.2.2, key.1, key.2.1⟩
          · rw [List.mem_singleton.mp hp]; exact (N₅ (T, oT) (by simp)).1
          · rw [List.mem_singleton.mp hp]; exact nI2 _ _ zT
          · rw [List.mem_singleton.mp hp]; exact hT (H2.objs.size, oC) (by simp)
          · rw [List.mem_singleton.mp hp]; exact hT (hp₂.objs.size, lst ys) (by simp)
          · rw [List.mem_singleton.mp hp]; simp
          · intro b u oC2 m₂ oI2 ys' hb hV2 hoC2 hmy hmo
            exact turn a v b u H2.objs.size oC2 m₂ _ (List.mem_of_getElem? ha) hV hb hV2 hoC2 (by rw [hmo _ hxy]; simp) hmy (fun p hp => by simp [hp])
          · intro ys2 h₆ tk₆ m₆ hr2 F₆ hn₆ N₆
            refine ⟨⟨_, rfl⟩, xs.length + 1 - (i + 1), by omega, h₆, tk₆, i + 1, ys ++ ys2, m₆, rfl, hlt, rfl, ?_, ?_, F₆, hn₆, news_weak N₆ fun p hp => ?_, ?_⟩
            · rw [List.length_append, hyl, hr2.length, Nat.succ_mul]
            · exact Sr.stay _ _ _ _ hst₃ heI₃ (N₆ (I, oI) (by simp)).1 (std h₆ F₆ (news_weak N₆ fun p hp => by simp [hp]))
            · simp only [List.mem_cons] at hp ⊢
              rcases hp with h | h <;> simp [h]
            · rw [List.take_add_one, ha, List.flatMap_append]
              refine hJ.append ?_
              show Rel2 GG ([a].flatMap _) ys2
              rw [List.flatMap_cons, List.flatMap_nil, List.append_nil]
              exact Rel2.map (G := GG) (fun b => (a, b)) hr2
        exact compStart_two1 body (Sr2.walks.self 0 _ _ _ hstI2 body)
      · obtain rfl : i = xs.length := Nat.le_antisymm hi (Nat.not_lt.mp hlt)
        refine Sr.walks.done _ _ _ hst' fun h₂ tk₂ hk₂ => ?_
        rw [List.take_length] at hJ
        have F₂ := fr_but F' hk₂ hIL hI₀
        have N₂ : News h₀ L h₂ ((hp₂.objs.size, lst ys) :: news) := news_but N' hk₂ fun p hp => by
          rcases List.mem_cons.mp hp with rfl | hp
          · exact Ne.symm hDI
          · exact (off3 p hp).1
        refine ⟨m', (hn'.at' fun o e => hk₂ _ o (by simpa using Ne.symm hCI) e), fun h'' hs'' => done ys hJ _ h'' tk₂ (F₂.change hs'' hCL hC₀) (fun p hp => ?_) off₀.one⟩
        refine ⟨hs''.extBut _ _ ?_ (N₂ p hp).1, (N₂ p hp).2⟩
        rcases List.mem_cons.mp hp with rfl | hp
        · exact hDC
        · exact (off3 p hp).2.1
    · rcases List.mem_cons.mp hp with rfl | hp
      · exact ⟨hacc, hDL, hD₀⟩
      · exact ⟨old _ _ (N p hp).1, (N p hp).2⟩
  exact codeAny_compStart_list (loop _ rfl) (Sr.walks.self 0 _ _ _ hst₁ (loop _ rfl))
theorem all : ∀ a0 a1 a2 a3 a4 a5, comp2_expr_sb4.1 a0 a1 a2 a3 a4 a5 := by
  have q1 : (fun q : (List Addr) × (Nat → Heap → Prop) × (Addr) × (Heap) × (Heap) × (Heap) × Unit => comp2_expr_sb4.1 q.1 q.2.1 q.2.2.1 q.2.2.2.1 q.2.2.2.2.1 q.2.2.2.2.2.1) (pick ⟨⟨default, default, default, default, default, default, ()⟩⟩ fun q => comp2_expr_sb4.1 q.1 q.2.1 q.2.2.1 q.2.2.2.1 q.2.2.2.2.1 q.2.2.2.2.2.1) := by with_unfolding_all exact main
  exact fun a0 a1 a2 a3 a4 a5 => pick_spec (P := fun q : (List Addr) × (Nat → Heap → Prop) × (Addr) × (Heap) × (Heap) × (Heap) × Unit => comp2_expr_sb4.1 q.1 q.2.1 q.2.2.1 q.2.2.2.1 q.2.2.2.2.1 q.2.2.2.2.2.1) (ne := ⟨⟨default, default, default, default, default, default, ()⟩⟩) q1 ⟨a0, a1, a2, a3, a4, a5, ()⟩
end go
theorem main : comp2_expr_sb3.1 prog w A E h₀ L m env elt i1 i2 x y px py pos scope cl α β xs V src news zs V2 G Q s₁ xv := comp2_expr_sb4.2 go.all
theorem all : ∀ a0 a1 a2 a3 a4 a5 a6 a7 a8 a9 a10 a11 a12 a13 a14 a15 a16 a17 a18 a19 a20 a21 a22 a23 a24 a25 a26 a27 a28 a29, comp2_expr_sb3.1 a0 a1 a2 a3 a4 a5 a6 a7 a8 a9 a10 a11 a12 a13 a14 a15 a16 a17 a18 a19 a20 a21 a22 a23 a24 a25 a26 a27 a28 a29 := by
  have q1 : (fun q : (Program) × (World) × (Around) × (Value → Shared → Prop) × (Heap) × (Addr) × (Str → Option Value) × (Env) × (PySem.Expr) × (PySem.Expr) × (PySem.Expr) × (Str) × (Str) × (Pos) × (Pos) × (Pos) × (Scope) × (List (Str × Addr)) × (α : Type) × (β : Type) × (List α) × (α → Value → Prop) × (List (Addr × Obj)) × (List (Addr × Obj)) × (List β) × (β → Value → Prop) × (α → β → Value → Prop) × (Value → Shared → Prop) × (Shared) × (Value) × Unit => comp2_expr_sb3.1 q.1 q.2.1 q.2.2.1 q.2.2.2.1 q.2.2.2.2.1 q.2.2.2.2.2.1 q.2.2.2.2.2.2.1 q.2.2.2.2.2.2.2.1 q.2.2.2.2.2.2.2.2.1 q.2.2.2.2.2.2.2.2.2.1 q.2.2.2.2.2.2.2.2.2.2.1 q.2.2.2.2.2.2.2.2.2.2.2.1 q.2.2.2.2.2.2.2.2.2.2.2.2.1 q.2.2.2.2.2.2.2.2.2.2.2.2.2.1 q.2.2.2.2.2.2.2.2.2.2.2.2.2.2.1 q.2.2.2.2.2.2.2.2.2.2.2.2.2.2.2.1 q.2.2.2.2.2.2.2.2.2.2.2.2.2.2.2.2.1 q.2.2.2.2.2.2.2.2.2.2.2.2.2.2.2.2.2.1 q.2.2.2.2.2.2.2.2.2.2.2.2.2.2.2.2.2.2.1 q.2.2.2.2.2.2.2.2.2.2.2.2.2.2.2.2.2.2.2.1 q.2.2.2.2.2.2.2.2.2.2.2.2.2.2.2.2.2.2.2.2.1 q.2.2.2.2.2.2.2.2.2.2.2.2.2.2.2.2.2.2.2.2.2.1 q.2.2.2.2.2.2.2.2.2.2.2.2.2.2.2.2.2.2.2.2.2.2.1 q.2.2.2.2.2.2.2.2.2.2.2.2.2.2.2.2.2.2.2.2.2.2.2.1 q.2.2.2.2.2.2.2.2.2.2.2.2.2.2.2.2.2.2.2.2.2.2.2.2.1 q.2.2.2.2.2.2.2.2.2.2.2.2.2.2.2.2.2.2.2.2.2.2.2.2.2.1 q.2.2.2.2.2.2.2.2.2.2.2.2.2.2.2.2.2.2.2.2.2.2.2.2.2.2.1 q.2.2.2.2.2.2.2.2.2.2.2.2.2.2.2.2.2.2.2.2.2.2.2.2.2.2.2.1 q.2.2.2.2.2.2.2.2.2.2.2.2.2.2.2.2.2.2.2.2.2.2.2.2.2.2.2.2.1 q.2.2.2.2.2.2.2.2.2.2.2.2.2.2.2.2.2.2.2.2.2.2.2.2.2.2.2.2.2.1) (pick ⟨⟨default, dW, dA, default, default, default, default, default, default, default, default, default, default, default, default, default, default, default, PUnit, PUnit, default, default, default, default, default, default, default, default, dS, default, ()⟩⟩ fun q => comp2_expr_sb3.1 q.1 q.2.1 q.2.2.1 q.2.2.2.1 q.2.2.2.2.1 q.2.2.2.2.2.1 q.2.2.2.2.2.2.1 q.2.2.2.2.2.2.2.1 q.2.2.2.2.2.2.2.2.1 q.2.2.2.2.2.2.2.2.2.1 q.2.2.2.2.2.2.2.2.2.2.1 q.2.2.2.2.2.2.2.2.2.2.2.1 q.2.2.2.2.2.2.2.2.2.2.2.2.1 q.2.2.2.2.2.2.2.2.2.2.2.2.2.1 q.2.2.2.2.2.2.2.2.2.2.2.2.2.2.1 q.2.2.2.2.2.2.2.2.2.2.2.2.2.2.2.1 q.2.2.2.2.2.2.2.2.2.2.2.2.2.2.2.2.1 q.2.2.2.2.2.2.2.2.2.2.2.2.2.2.2.2.2.1 q.2.2.2.2.2.2.2.2.2.2.2.2.2.2.2.2.2.2.1 q.2.2.2.2.2.2.2.2.2.2.2.2.2.2.2.2.2.2.2.1 q.2.2.2.2.2.2.2.2.2.2.2.2.2.2.2.2.2.2.2.2.1 q.2.2.2.2.2.2.2.2.2.2.2.2.2.2.2.2.2.2.2.2.2.1 q.2.2.2.2.2.2.2.2.2.2.2.2.2.2.2.2.2.2.2.2.2.2.1 q.2.2.2.2.2.2.2.2.2.2.2.2.2.2.2.2.2.2.2.2.2.2.2.1 q.2.2.2.2.2.2.2.2.2.2.2.2.2.2.2.2.2.2.2.2.2.2.2.2.1 q.2.2.2.2.2.2.2.2.2.2.2.2.2.2.2.2.2.2.2.2.2.2.2.2.2.1 q.2.2.2.2.2.2.2.2.2.2.2.2.2.2.2.2.2.2.2.2.2.2.2.2.2.2.1 q.2.2.2.2.2.2.2.2.2.2.2.2.2.2.2.2.2.2.2.2.2.2.2.2.2.2.2.1 q.2.2.2.2.2.2.2.2.2.2.2.2.2.2.2.2.2.2.2.2.2.2.2.2.2.2.2.2.1 q.2.2.2.2.2.2.2.2.2.2.2.2.2.2.2.2.2.2.2.2.2.2.2.2.2.2.2.2.2.1) := by with_unfolding_all exact main
  exact fun a0 a1 a2 a3 a4 a5 a6 a7 a8 a9 a10 a11 a12 a13 a14 a15 a16 a17 a18 a19 a20 a21 a22 a23 a24 a25 a26 a27 a28 a29 => pick_spec (P := fun q : (Program) × (World) × (Around) × (Value → Shared → Prop) × (Heap) × (Addr) × (Str → Option Value) × (Env) × (PySem.Expr) × (PySem.Expr) × (PySem.Expr) × (Str) × (Str) × (Pos) × (Pos) × (Pos) × (Scope) × (List (Str × Addr)) × (α : Type) × (β : Type) × (List α) × (α → Value → Prop) × (List (Addr × Obj)) × (List (Addr × Obj)) × (List β) × (β → Value → Prop) × (α → β → Value → Prop) × (Value → Shared → Prop) × (Shared) × (Value) × Unit => comp2_expr_sb3.1 q.1 q.2.1 q.2.2.1 q.2.2.2.1 q.2.2.2.2.1 q.2.2.2.2.2.1 q.2.2.2.2.2.2.1 q.2.2.2.2.2.2.2.1 q.2.2.2.2.2.2.2.2.1 q.2.2.2.2.2.2.2.2.2.1 q.2.2.2.2.2.2.2.2.2.2.1 q.2.2.2.2.2.2.2.2.2.2.2.1 q.2.2.2.2.2.2.2.2.2.2.2.2.1 q.2.2.2.2.2.2.2.2.2.2.2.2.2.1 q.2.2.2.2.2.2.2.2.2.2.2.2.2.2.1 q.2.2.2.2.2.2.2.2.2.2.2.2.2.2.2.1 q.2.2.2.2.2.2.2.2.2.2.2.2.2.2.2.2.1 q.2.2.2.2.2.2.2.2.2.2.2.2.2.2.2.2.2.1 q.2.2.2.2.2.2.2.2.2.2.2.2.2.2.2.2.2.2.1 q.2.2.2.2.2.2.2.2.2.2.2.2.2.2.2.2.2.2.2.1 q.2.2.2.2.2.2.2.2.2.2.2.2.2.2.2.2.2.2.2.2.1 q.2.2.2.2.2.2.2.2.2.2.2.2.2.2.2.2.2.2.2.2.2.1 q.2.2.2.2.2.2.2.2.2.2.2.2.2.2.2.2.2.2.2.2.2.2.1 q.2.2.2.2.2.2.2.2.2.2.2.2.2.2.2.2.2.2.2.2.2.2.2.1 q.2.2.2.2.2.2.2.2.2.2.2.2.2.2.2.2.2.2.2.2.2.2.2.2.1 q.2.2.2.2.2.2.2.2.2.2.2.2.2.2.2.2.2.2.2.2.2.2.2.2.2.1 q.2.2.2.2.2.2.2.2.2.2.2.2.2.2.2.2.2.2.2.2.2.2.2.2.2.2.1 q.2.2.2.2.2.2.2.2.2.2.2.2.2.2.2.2.2.2.2.2.2.2.2.2.2.2.2.1 q.2.2.2.2.2.2.2.2.2.2.2.2.2.2.2.2.2.2.2.2.2.2.2.2.2.2.2.2.1 q.2.2.2.2.2.2.2.2.2.2.2.2.2.2.2.2.2.2.2.2.2.2.2.2.2.2.2.2.2.1) (ne := ⟨⟨default, dW, dA, default, default, default, default, default, default, default, default, default, default, default, default, default, default, default, PUnit, PUnit, default, default, default, default, default, default, default, default, dS, default, ()⟩⟩) q1 ⟨a0, a1, a2, a3, a4, a5, a6, a7, a8, a9, a10, a11, a12, a13, a14, a15, a16, a17, a18, a19, a20, a21, a22, a23, a24, a25, a26, a27, a28, a29, ()⟩
end comp2_expr_e0
end
section
variable {prog : Program} {w : World} {A : Around} {E : Value → Shared → Prop} {s : Shared} {h₀ : Heap} {L : Addr} {m : Str → Option Value} {env : Env} {outer : List Env} {elt i1 i2 : PySem.Expr} {x y : Str} {px py pos : Pos} {scope : Scope} {cl : List (Str × Addr)}
theorem comp2_expr {α β : Type} {xs : List α} {V : α → Value → Prop} {src news : List (Addr × Obj)} {zs : List β} {V2 : β → Value → Prop} (G : α → β → Value → Prop) {Q : Value → Shared → Prop} (_F₀ : Fr h₀ L s.heap m)
    (hkind : scope.kind = .function) (hf : env.frame = some L) (hclos : closureFor scope env = pure cl) (hcell : ∀ y ∈ scope.names, y.2 ≠ .cell)
    (hnames : ∀ y ∈ scope.names, y.2 = .local → scope.names.lookup y.1 = some .local) (hx : scope.names.lookup x = some .local) (hy : scope.names.lookup y = some .local) (hxy : x ≠ y)
    (h : wpAny (model prog w) A (eval i1 env) (fun xv s₁ => IterOf prog w A xv s₁.heap xs V src ∧ Fr h₀ L s₁.heap m ∧ News h₀ L s₁.heap news ∧ (∀ p ∈ src, h₀.get? p.1 = some p.2 ∨ p ∈ news) ∧ xs.length * zs.length ≤ sizeLine ∧
      (∀ C oC h tk nw Q', Fr h₀ L h m → News h₀ L h ((C, oC) :: nw) →
        (∀ yv T oT h' tk', (∀ es n, oT.data ≠ .dict es n) → Fr h₀ L h' m → News h₀ L h' ((T, oT) :: (C, oC) :: nw) → (∀ q ∈ (C, oC) :: nw, T ≠ q.1) → IterOf prog w A yv h' zs V2 [(T, oT)] → Q' yv { s₁ with heap := h', toks := tk' }) →
        wpAny (model prog w) A (eval i2 (compEnvC scope cl C env)) Q' NoE { s₁ with heap := h, toks := tk }) ∧
      (∀ a v b u C oC m₂ nw, a ∈ xs → V a v → b ∈ zs → V2 b u → NsObj oC m₂ → m₂ x = some v → m₂ y = some u → (∀ p ∈ news, p ∈ nw) → EltOk prog w A h₀ L m env elt scope cl s₁ C oC nw (G a b)) ∧
      (∀ ys, Rel2 (fun p y => G p.1 p.2 y) (xs.flatMap fun a => zs.map fun b => (a, b)) ys → FinX h₀ L m Q s₁ ys news)) E s)
    (hs : ∀ x, foldedSetIterable i1 env x = pure x := by intro _; rfl) (hs2 : ∀ C x, foldedSetIterable i2 (compEnvC scope cl C env) x = pure x := by intro _ _; rfl) :
    wpAny (model prog w) A (eval (Ex2 elt i1 i2 (.Name x px) (.Name y py) scope pos) env) Q E s :=
  comp2_expr_sb3.2 comp2_expr_e0.all prog w A E s h₀ L m env elt i1 i2 x y px py pos scope cl α β xs V src news zs V2 G Q _F₀ hkind hf hclos hcell hnames hx hy hxy h hs hs2
end
end Mine
end
section
open PySem PySem.W PyProof.Rows PySem.Calls
open PyProof.Rows.LCg (lst Off3 Off1 NsObj ns_obj lst_snoc fr_but news_but)
namespace Mine
set_option maxRecDepth 100000

section
variable {prog : Program} {w : World} {A : Around} {E : Value → Shared → Prop} {s : Shared} {h₀ : Heap} {L : Addr} {m : Str → Option Value} {env : Env} {outer : List Env} {exc : Prop} {elt iter : PySem.Expr} {x y : Str} {px py pos spos : Pos} {scope : Scope} {cl : List (Str × Addr)}

theorem comp_exprQ {Q : Value → Shared → Prop} (_F₀ : Fr h₀ L s.heap m) (hfr : exc → A.frames = some (env :: outer)) (hf : env.frame = some L) (hout : exc → ∀ b ∈ outer.filterMap (·.frame), ∃ o, h₀.get? b = some o)
    (hclos : closureFor scope env = pure cl) (hcell : ∀ y ∈ scope.names, y.2 ≠ .cell) (hkind : scope.kind = .function)
    (hnames : ∀ y ∈ scope.names, y.2 = .local → scope.names.lookup y.1 = some .local) (hx : scope.names.lookup x = some .local)
    (h : wpAny (model prog w) A (eval iter env) (CompGo prog w A h₀ L m env outer elt x scope cl (FinX h₀ L m Q) E exc) E s)
    (hs : ∀ x, foldedSetIterable iter env x = pure x := by intro _; rfl) :
    wpAny (model prog w) A (eval (.ListComp elt [⟨.Name x px, iter, [], 0⟩] scope pos) env) Q E s := by
  rw [eval_ListComp]
  refine wpAny_comprehension_free (use := none) rfl hs hclos hkind hnames (wpAny_mono h (fun xv s₁ h₁ => ?_) fun _ _ e => e)
  refine comp_blockQ (RR := compPost (model prog w) A E none Q) hfr hf hout hcell hkind hx h₁ ?_ ?_
  · intro D C h tk m' ys news' F' N' o1 hn hC₀ hD₀ hCL hDL hCD offC fin
    refine ⟨m', hn, fun h'' hs'' => fin D h'' tk (F'.change hs'' hCL hC₀) (fun p hp => ?_) o1⟩
    refine ⟨hs''.extBut _ _ ?_ (N' p hp).1, (N' p hp).2⟩
    rcases List.mem_cons.mp hp with rfl | hp
    · exact Ne.symm hCD
    · exact offC p hp
  · intro D C ea h' tk m' hn hp
    exact ⟨m', hn, hp⟩

end
end Mine
end
section
open PySem PySem.W PyProof.Rows PySem.Calls
namespace Mine
set_option maxRecDepth 100000
theorem fillB : hd.heap_1 = hd.heap_1 ∧ PySem.Challenge.rw_pb0105_01 = PySem.Challenge.rw_pb0105_01 := by
  w_top off
  k_fill
  exact ⟨rfl, rfl⟩

noncomputable abbrev PR : Program := PySem.Challenge.rw_pb0105_01.row.prog
noncomputable abbrev LO : List Str := looseW vw [Str.ofString "GitError", Str.ofString "read_pkts", Str.ofString "PushCommand", Str.ofString "PushRequest"]

section
variable {prog : Program} {w : World} {A₀ A : Around} {s : Shared} {base h₀ : Heap} {outer : List Env} {L : Addr} {m mg mb : Str → Option Value} {env : Env} {news : List (Addr × Obj)} {K : Frag} {p : Program} {loose : List Str} {mean : ExcName → Option Value}
  {R : Result → Shared → Prop} {name qual : Str} {params : Arguments} {body : List Stmt} {scope : Scope} {dV kV doc pm cdv ct oc : Value} {an od : Option Addr} {osl : Array (Option Value)} {f : Addr} {args : Args} {binds : List (Str × Value)}

/-- a plain def entered: the base of its frame is the caller's heap as it stands -/
theorem enterP (B : Below A₀ base outer h₀) (F : Fr h₀ L s.heap m) (X₀ : K.In h₀) (T : Top p loose mean mg mb h₀) (hA : A.frames = some (env :: outer)) (hf : env.frame = some L) (hke : env.scope.kind = .function)
    (ho : K.lookup f = some ⟨oc, od, .func (fnOf name qual params body scope dV kV doc pm an cdv ct), osl⟩) (hcd : codeIn K cdv qual = true) (hroom : A.depth < recursionLimit)
    (hbind : BindsTo s (fnOf name qual params body scope dV kV doc pm an cdv ct) args binds) (hloc : ∀ y ∈ binds, scope.names.lookup y.1 = some .local)
    (h : ∀ L' h₁, Fr s.heap L' h₁ (fun y => binds.reverse.lookup y) → News s.heap L' h₁ [] → Below A base (env :: outer) s.heap → K.In s.heap → Top p loose mean mg mb s.heap →
      wpAny (model prog w) (A.deeper (envOf qual scope L' f cdv)) (execs body (envOf qual scope L' f cdv))
        (fun fl s' => R (.ok (.ret (match fl with | .ret v => v | _ => .none))) s')
        (fun e s' => wpAny (model prog w) (A.deeper (envOf qual scope L' f cdv)) (leaving (envOf qual scope L' f cdv) e) (fun _ s'' => R (.error e) s'') (fun e' s'' => R (.error e') s'') s')
        { s with heap := h₁, toks := s.toks + binds.length })
    (hco : scope.isCoroutine = false) (hgen : scope.isGenerator = false) (hk : scope.kind = .function)
    (hcell : ∀ x ∈ scope.names, x.2 ≠ .cell) : codeAny (model prog w) A (.call (.ref f) args) R s := by
  have X := X₀.keeps F.keep
  have B₁ := pushX B F hf hke
  refine codeAny_call_def (fd := fnOf name qual params body scope dV kV doc pm an cdv ct) (body := body) (binds := binds) hroom (X _ _ ho) rfl (T.nolimit.keeps F.keep) (codeRec_of X hcd) rfl hbind hcell hloc (fun h₁ hns hk₁ => ?_) hco hgen hk
  exact h s.heap.objs.size h₁ ⟨hns, hk₁, Nat.le_refl _⟩ News.nil ⟨hA, B₁.stays, B₁.frames⟩ X (T.keeps F.keep)
end

section
open Builtin Builtin.ObjectAttr
variable {prog : Program} {w : World} {A : Around} {E : Value → Shared → Prop} {s : Shared} {e : Addr} {vs : Array Value} {v : Value} {R : Result → Shared → Prop}

theorem bad_osa {tk : Tok} (X : (hd.heap_1 w.params).In s.heap) (he : s.heap.get? e = some { cls := .ref 57, data := .fields vs })
    (hq : ∀ h' d tk', (∀ b o, b ≠ e → s.heap.get? b = some o → h'.get? b = some o) → h'.get? e = some { cls := .ref 57, dict := some d, data := .fields vs } → R (.ok (.ret .none)) { s with heap := h', toks := tk' }) :
    codeAny (model prog w) A (.call (.builtin "object.__setattr__") ⟨[.ref e, .str (Str.ofString "told") tk, v], []⟩) R s := by
  obtain ⟨h, g, d, t, os⟩ := s
  dsimp only at X he hq
  have SF := PySem.F.store_object
  have Ty : Looks (model prog w) h (typeOf (.ref e)) (.ref 57) := (Looks.ld he).andThen .now
  have sub : Looks (model prog w) h (isInstance (.ref e) (.type "object")) true := Ty.andThen (looks_mroIn X (by k_is))
  have Mr : Looks (model prog w) h (mroOf (.ref 57)) [.ref 57, .ref 32, .type "Exception", .type "BaseException", .type "object"] := (looks_clsIn X (C := 57) (by k_is)).andThen .now
  have Tl : Looks (model prog w) h (typeLookup (.ref 57) (Str.ofString "told")) none := looks_findIn X (by k_is)
  refine codeAny_call_builtin SF.slot.plain SF.entry (@check_slot (model prog w) _ _ _ "object.__setattr__" "object" "__setattr__" (.ref e) [.str (Str.ofString "told") tk, v] [] _ SF.kind SF.split sub (SF.args (.ref e) (.str (Str.ofString "told") tk) v) ?_)
  rw [osa_eq, refuse_eq]
  refine wpAny_bind (wpAny_bind (Ty.here (wpAny_bind (Mr.here ?_))))
  rw [refuseLoop_ref, refuseLoop_ref, PySem.F.store_Exception.passes]
  refine wpAny_pure (wpAny_bind (Ty.here (wpAny_bind (Tl.here (wpAny_bind (wpAny_pure ?_))))))
  have Cd : Looks (model prog w) h (classData 57) ((clsIn (hd.heap_1 w.params) 57).getD default) := looks_clsIn X (C := 57) (by rw [show (clsIn (hd.heap_1 w.params) 57) = some ((clsIn (hd.heap_1 w.params) 57).getD default) from by rfl]; rfl)
  unfold storeInOwnDict ownDictForStores instanceDict
  repeat lk
  have hx₁ : (h.push { cls := .type "dict", data := .dict #[] }).get? e = some { cls := .ref 57, data := .fields vs } := Heap.get?_push_of_some _ he
  have hxs : e ≠ h.objs.size := Nat.ne_of_lt (Heap.lt_size he)
  refine wpAny_update' hx₁ ?_
  refine wpAny_pure ?_
  have hgd : ((h.push { cls := .type "dict", data := .dict #[] }).update e fun o => { cls := o.cls, dict := some h.objs.size, data := o.data, slots := o.slots }).get? h.objs.size
      = some { cls := .type "dict", data := .dict #[] } := (Heap.get?_update_ne _ _ _ _ hxs.symm).trans (Heap.get?_push_at rfl rfl)
  have hnd : ((h.push { cls := .type "dict", data := .dict #[] }).update e fun o => { cls := o.cls, dict := some h.objs.size, data := o.data, slots := o.slots }).Ns h.objs.size (fun _ => none) :=
    ⟨_, #[], _, hgd, rfl, fun e he => absurd he (by simp), fun _ => rfl⟩
  have hge : ((h.push { cls := .type "dict", data := .dict #[] }).update e fun o => { cls := o.cls, dict := some h.objs.size, data := o.data, slots := o.slots }).get? e
      = some { cls := .ref 57, dict := some h.objs.size, data := .fields vs } := Heap.get?_update_self (fun o => { cls := o.cls, dict := some h.objs.size, data := o.data, slots := o.slots }) hx₁ rfl
  show wpAny _ _ (storeInDict h.objs.size _ _ v) _ _ _
  unfold storeInDict newKeyGuard
  refine wpAny_bind (wpAny_pure (wpAny_bind (wpAny_nsSet1 (Heap.Ns1.of_empty hnd) fun h' hn' hs => ?_)))
  obtain ⟨oD, esD, epD, hoD, hdD, hcD⟩ := hn'.count (Within.cons (Str.ofString "told") v Within.nil)
  refine wpAny_bind (wpAny_lookBehind hoD (by rw [hdD]; exact pastItsLine_dict (Nat.le_trans hcD (by rw [List.length_cons, List.length_nil, sizeLine_eq]; omega))) ?_)
  refine wpAny_pure (hq h' h.objs.size _ (fun b o hb ho => ?_) ((hs.2 e hxs).trans hge))
  exact (hs.2 b (Nat.ne_of_lt (Heap.lt_size ho))).trans ((Heap.get?_update_ne _ _ _ _ hb).trans (Heap.get?_push_of_some _ ho))

theorem bad_set (X : (hd.heap_1 w.params).In s.heap) (he : s.heap.get? e = some { cls := .ref 57, data := .fields vs }) {Q : Unit → Shared → Prop}
    (hq : ∀ h' d tk', (∀ b o, b ≠ e → s.heap.get? b = some o → h'.get? b = some o) → h'.get? e = some { cls := .ref 57, dict := some d, data := .fields vs } → Q () { s with heap := h', toks := tk' }) :
    wpAny (model prog w) A (setAttr (.ref e) (Str.ofString "told") v) Q E s := by
  have Ty : Looks (model prog w) s.heap (typeOf (.ref e)) (.ref 57) := (Looks.ld he).andThen .now
  have Sa : Looks (model prog w) s.heap (typeLookup (.ref 57) "__setattr__") (some (.builtin "object.__setattr__")) := looks_findIn X (by k_is)
  refine wpAny_bind (wpAny_mkText (wpAny_bind (wpAny_bind (wpAny_bind (Ty _ _ _ _ (fun _ _ e => e) (Sa _ _ _ _ (fun _ _ e => e) (wpAny_holding ?_)))))))
  rw [PySem.F.store_object.slot.bind]
  exact wpAny_bind (wpAny_pure (wpAny_bind (wpAny_call (bad_osa (s := { s with toks := s.toks + 1 }) X he fun h' d tk' k1 k2 => wpAny_pure (wpAny_pure (hq h' d tk' k1 k2))))))
end
section
variable {M : Model} {A : Around} {E : Value → Shared → Prop} {h : Heap} {g : Array GenState} {d : Drawn} {t : Nat} {os : OsState}
variable {nm q : Str} {C N : Addr} {bs bm : List Value} {hdct : Bool} {sn : List Str} {sub : List Value} {ab : Bool} {col : Option Bool} {dd : Option Addr} {k0 k1 k2 k3 k5 : Option Value}

theorem bad_check_new {rest : List Value} {Q : Unit → Shared → Prop} (hC : h.get? C = some (excClassObj nm q C N bs bm hdct sn sub ab col dd k0 k1 k2 k3 k5 "Exception.__new__"))
    (hcont : (Value.ref C :: bm).contains (.type "Exception") = true)
    (hq : Q () ⟨h, g, d, t, os⟩) : wpAny M A (checkBuiltinCall "Exception.__new__" ⟨.ref C :: rest, []⟩) Q E ⟨h, g, d, t, os⟩ := by
  have F := PySem.F.excBase_Exception
  have hstar := F.noStar
  simp only [checkBuiltinCall, F.newKind, F.newSplit, F.newRow]
  repeat (first | refine wpAny_loadPart_at hC ?_ | (refine wpAny_isSubtype_exc hC ?_; rw [hcont]) | refine wpAny_staticBase_exc hC ?_ | refine wpAny_madeBy_exc hC ?_ | simp only [bne_self_eq_false, Bool.false_eq_true, if_false] | wp_step)
  exact hq
end
section
variable {prog : Program} {w : World} {A : Around} {E : Value → Shared → Prop} {R : Result → Shared → Prop} {h : Heap} {g : Array GenState} {d : Drawn} {t : Nat} {os : OsState}
variable {nm q : Str} {C N : Addr} {bs bm : List Value} {hdct : Bool} {sn : List Str} {sub : List Value} {ab : Bool} {col : Option Bool} {dd : Option Addr} {k0 k1 k2 k3 k5 : Option Value}

theorem bad_new {rest : List Value} (hC : h.get? C = some (excClassObj nm q C N bs bm hdct sn sub ab col dd k0 k1 k2 k3 k5 "Exception.__new__"))
    (hcB : (Value.ref C :: bm).contains (.type "Exception") = true) (hcA : (Value.ref C :: bm).contains (.type "AttributeError") = false) (hcN : (Value.ref C :: bm).contains (.type "NameError") = false)
    (hq : R (.ok (.ret (.ref (h.objs.size + 1)))) ⟨(h.push { cls := .type "tuple", data := .seq rest.toArray }).push
      { cls := .ref C, data := .fields #[.ref h.objs.size, .none, .none, .none, .bool false, .none] }, g, d, t, os⟩) (hrest : rest.length ≤ sizeLine) :
    codeAny (model prog w) A (.builtin "Exception.__new__" ⟨.ref C :: rest, []⟩) R ⟨h, g, d, t, os⟩ := by
  have F := PySem.F.excBase_Exception
  have hends := F.ends
  refine codeAny_builtinAt F.entry ?_
  unfold Builtin.«BaseException.__new__»
  refine PySem.wpAt_bind ?_
  show PySem.wpAt _ _ _ (stack >>= _) _ _ _
  refine PySem.wpAt_bind (PySem.wpAt_stack fun p below => PySem.wpAt_of_wpAny ?_)
  wp_walk
  refine PySem.wpAt_of_wpAny ?_
  rw [F.owner]
  repeat (first | with_reducible refine wpAny_madeHere_exc F.canon hC ?_ | with_reducible refine wpAny_loadPart_at hC ?_ | (with_reducible refine wpAny_isSubtype_exc hC ?_; first | rw [hcB] | rw [hcA] | rw [hcN]) | wp_step)
  show R _ _
  rw [Heap.size_push]
  exact hq

theorem bad_type_call {fI : Addr} {rest : List Value} {Q : Fin → Shared → Prop}
    (hC : h.get? C = some (excClassObj nm q C N bs bm hdct sn sub ab col dd k0 k1 k2 k3 k5 "Exception.__new__"))
    (hcB : (Value.ref C :: bm).contains (.type "Exception") = true) (hcA : (Value.ref C :: bm).contains (.type "AttributeError") = false) (hcN : (Value.ref C :: bm).contains (.type "NameError") = false)
    (hI : Looks (model prog w) h (typeLookup (.ref C) "__init__") (some (.ref fI))) (hF : Looks (model prog w) h (typeOf (.ref fI)) (.type "function"))
    (hq : ∀ h' e, Heap.MadeExcOf h h' e (.ref C) rest →
      wpAny (model prog w) A (call (.ref fI) (.ref e :: rest)) (fun r s' => r = .none ∧ Q (.done (.ret (.ref e))) s') E ⟨h', g, d, t, os⟩) (hrest : rest.length ≤ sizeLine) :
    wpAny (model prog w) A (Builtin.«type.__call__» ⟨.ref C :: rest, []⟩) Q E ⟨h, g, d, t, os⟩ := by
  have F := PySem.F.excBase_Exception
  repeat (first | with_reducible refine wpAny_loadPart_at hC ?_ | with_reducible refine wpAny_madeBy_exc hC ?_ | wp_step)
  refine codeAny_call_builtin_code (Code.quiet_builtin _ F.quiet) (bad_check_new hC hcB ?_)
  refine bad_new hC hcB hcA hcN ?_ hrest
  show wpAny _ _ _ _ _ _
  have kk : ∀ b o, h.get? b = some o → ((h.push { cls := .type "tuple", data := .seq rest.toArray }).push
      { cls := .ref C, data := .fields #[.ref h.objs.size, .none, .none, .none, .bool false, .none] }).get? b = some o := fun b o e => Heap.get?_push_of_some _ (Heap.get?_push_of_some _ e)
  have hC₁ := kk _ _ hC
  have hget : ((h.push { cls := .type "tuple", data := .seq rest.toArray }).push
      { cls := .ref C, data := .fields #[.ref h.objs.size, .none, .none, .none, .bool false, .none] }).get? (h.objs.size + 1) = some
      { cls := .ref C, data := .fields #[.ref h.objs.size, .none, .none, .none, .bool false, .none] } := by heap_get
  have hcC : (Value.ref C :: bm).contains (.ref C) = true := by simp
  unfold isInstance
  repeat (first | with_reducible refine wpAny_loadPart_at hget ?_ | (with_reducible refine wpAny_isSubtype_exc hC₁ ?_; rw [hcC]) | wp_step)
  show wpAny _ _ (typeLookup (.ref C) _) _ _ _
  refine (hI.keeps kk).here ?_
  refine wpAny_holding (wpAny_bind ?_)
  unfold bindSpecial
  refine wpAny_bind ((hF.keeps kk).here ?_)
  rw [if_pos (by decide)]
  refine wpAny_pure (wpAny_bind (wpAny_mono (hq _ (h.objs.size + 1) ⟨kk, Heap.get?_none_of_le (Nat.le_succ _), h.objs.size, hget, Heap.get?_none_of_le (Nat.le_refl _), ?_⟩) (fun r s' hr => ?_) fun _ _ x => x))
  · exact Heap.get?_push_of_some _ (Heap.get?_push_at rfl rfl)
  · obtain ⟨rfl, hQ⟩ := hr
    wp_walk
    exact hQ

theorem bad_call {fI : Addr} {rest : List Value} {Q : Value → Shared → Prop}
    (hC : h.get? C = some (excClassObj nm q C N bs bm hdct sn sub ab col dd k0 k1 k2 k3 k5 "Exception.__new__"))
    (hcB : (Value.ref C :: bm).contains (.type "Exception") = true) (hcA : (Value.ref C :: bm).contains (.type "AttributeError") = false) (hcN : (Value.ref C :: bm).contains (.type "NameError") = false)
    (hI : Looks (model prog w) h (typeLookup (.ref C) "__init__") (some (.ref fI))) (hF : Looks (model prog w) h (typeOf (.ref fI)) (.type "function"))
    (hq : ∀ h' e, Heap.MadeExcOf h h' e (.ref C) rest →
      wpAny (model prog w) (A.under (.builtin "type.__call__" ⟨.ref C :: rest, []⟩)) (call (.ref fI) (.ref e :: rest)) (fun r s' => r = .none ∧ Q (.ref e) s') E ⟨h', g, d, t, os⟩) (hrest : rest.length ≤ sizeLine) :
    wpAny (model prog w) A (call (.ref C) rest) Q E ⟨h, g, d, t, os⟩ := by
  have f1 := tc_lookup
  have f2 := tc_bind (.ref C)
  have hT : (⟨h, g, d, t, os⟩ : Shared).TypeIs (.ref C) "type" := ⟨_, hC, rfl⟩
  refine wpAny_call (codeAny_of_tree ?_)
  show wpAny _ _ (callAny (.ref C) _) _ _ _
  repeat (any_goals (first | assumption | with_reducible refine wpAny_loadPart_at hC ?_ | wp_step))
  refine ⟨rfl, ?_⟩
  refine codeAny_call_builtin_at (Code.quiet_builtin _ (by decide +kernel)) entry_typeCall (wpAny_check_type_call_sub hC (bad_type_call hC hcB hcA hcN hI hF (fun h' e hm => ?_) hrest))
  exact hq h' e hm
end
set_option maxHeartbeats 4000000
section
variable {prog : Program} {w : World} {A A₀ : Around} {E : Value → Shared → Prop} {s : Shared} {h₀ base : Heap} {L : Addr} {m mg mb : Str → Option Value} {outer : List Env} {mean : ExcName → Option Value} {cn : Str} {cs : Scope} {a : Addr} {ccd : Value} {cl : List (Str × Addr)}

/-- BadLine(v): a new exception object, all else as it was -/
theorem make_bad {v : Value} {Q : Value → Shared → Prop} (B : Below A₀ base outer h₀) (F : Fr h₀ L s.heap m) (X₀ : (hd.heap_1 w.params).In h₀) (T : Top vw LO mean mg mb h₀)
    (hA : A.frames = some (envX cn cs L a ccd cl :: outer)) (hke : cs.kind = .function) (hroom : A.depth + 4 < recursionLimit)
    (h : ∀ h' e d t tk', (∀ b o, s.heap.get? b = some o → h'.get? b = some o) → s.heap.get? e = none → h'.get? e = some { cls := .ref 57, dict := some d, data := .fields #[.ref t, .none, .none, .none, .bool false, .none] } → Q (.ref e) { s with heap := h', toks := tk' }) :
    wpAny (model prog w) A (call (.ref 57) [v]) Q E s := by
  have X := X₀.keeps F.keep
  obtain ⟨hh, g, d, t, os⟩ := s
  dsimp only at F X h
  have hc : ∃ nm q bs bm hdct sn sub ab col dd k0 k1 k2 k3 k5, hh.get? 57 = some (excClassObj nm q 57 56 bs bm hdct sn sub ab col dd k0 k1 k2 k3 k5 "Exception.__new__") ∧ (Value.ref 57 :: bm).contains (.type "Exception") = true ∧ (Value.ref 57 :: bm).contains (.type "AttributeError") = false ∧ (Value.ref 57 :: bm).contains (.type "NameError") = false := by
    refine ⟨_, _, _, _, _, _, _, _, _, _, _, _, _, _, _, X _ _ (by k_is), ?_, ?_, ?_⟩ <;> decide
  obtain ⟨nm, q, bs, bm, hdct, sn, sub, ab, col, dd, k0, k1, k2, k3, k5, hC, c1, c2, c3⟩ := hc
  refine bad_call hC c1 c2 c3 (looks_findIn X (by k_is)) (looks_typeIn X (v := .ref 29) (by k_is)) (fun h₁ e hm => ?_) (by rw [sizeLine_eq]; exact Nat.le_of_ble_eq_true rfl)
  obtain ⟨t', he, ht0, ht⟩ := hm.there
  have F₁ : Fr h₀ L h₁ m := F.keeps hm.keeps
  refine wpAny_call ?_
  refine' enterP (s := ⟨h₁, g, d, t, os⟩) (f := 29) (env := envX cn cs L a ccd cl) (R := fun r s' => match r with | .ok (.ret v) => v = .none ∧ Q (.ref e) s' | .ok _ => False | .error x => E x s') B F₁ X₀ T ?hA rfl hke ?ho ?hcd ?hroom ?hbind ?hloc ?h ?hco ?hgen ?hk ?hcell
  case ho => k_dflt k_is
  case hcd => k_dflt k_is
  case hA => exact hA
  case hroom =>
    simp only [depth_under_make]; omega
  case hbind => k_dflt (first | exact BindsTo.of_eq rfl | exact binds_K (Frag.In.keeps X hm.keeps) rfl (by k_is) rfl rfl rfl)
  case hloc => exact locs rfl
  case hco => exact rfl
  case hgen => exact rfl
  case hk => exact rfl
  case hcell => decide
  case h =>
    intro L' h₂ F' N' B' X' T'
    (try dsimp only)
    (try k_fold)
    k_steps
    refine bad_set (X'.keeps F'.keep) (F'.keep _ _ he) fun h₃ d' tk' k1 k2 => ?_
    k_steps
    exact h h₃ e d' t' _ (fun b o hb => k1 b o (fun q => by rw [q, hm.new] at hb; cases hb) (F'.keep _ _ (hm.keeps _ _ hb))) hm.new k2

/-- raise BadLine('..') -/
theorem raise_bad {txt : Str} {k : Nat} {np cp cpos pos : Pos} {Q : Flow → Shared → Prop} (B : Below A₀ base outer h₀) (F : Fr h₀ L s.heap m) (X₀ : (hd.heap_1 w.params).In h₀) (T : Top vw LO mean mg mb h₀)
    (hA : A.frames = some (envX cn cs L a ccd cl :: outer)) (hke : cs.kind = .function) (hh : A.handled = none) (hroom : A.depth + 4 < recursionLimit) (hk : (envX cn cs L a ccd cl).kindOf (Str.ofString "BadLine") = some .globalImplicit)
    (h : ∀ h' e d t tk', (∀ b o, s.heap.get? b = some o → h'.get? b = some o) → s.heap.get? e = none → h'.get? e = some { cls := .ref 57, dict := some d, data := .fields #[.ref t, .none, .none, .none, .bool false, .none] } → E (.ref e) { s with heap := h', toks := tk' }) :
    wpAny (model prog w) A (exec (.Raise (some (.Call (.Name (Str.ofString "BadLine") np) [.Constant (.str txt) k cp] [] cpos)) none pos) (envX cn cs L a ccd cl)) Q E s := by
  have X := X₀.keeps F.keep
  rw [arm_exec_Raise]
  refine wpAny_bind (wpAny_standAt ?_)
  show wpAny _ _ (raiseStmt _ (some _) none) _ _ _
  unfold raiseStmt
  refine wpAny_bind (wpAny_mono (Q := fun v s₁ => ∃ h' e d t tk', v = .ref e ∧ s₁ = { s with heap := h', toks := tk' } ∧ (∀ b o, s.heap.get? b = some o → h'.get? b = some o) ∧ s.heap.get? e = none ∧ h'.get? e = some { cls := .ref 57, dict := some d, data := .fields #[.ref t, .none, .none, .none, .bool false, .none] }) ?_ (fun v s₁ h₁ => ?_) fun _ _ x => x)
  · refine wpAny_bind (wpAny_mono (wpAny_Call_ofName (nameX_K F X₀ (topRead_of T) (by k_is) ?_ hke hk)) (fun v s₁ h₁ => wpAny_bind (wpAny_standAt (wpAny_pure h₁))) fun _ _ x => x)
    refine callWith_K (K := hd.heap_1 w.params) X (by k_is) ?_
    refine spliced_more (wpAny_Constant_str (spliced_none ⟨X, ?_⟩))
    refine make_bad (s := { s with toks := s.toks + 1 }) B F X₀ T hA hke hroom fun h' e d t tk' k1 k2 k3 => ?_
    exact ⟨h', e, d, t, tk', rfl, rfl, k1, k2, k3⟩
  · obtain ⟨h', e, d, t, tk', rfl, rfl, k1, k2, k3⟩ := h₁
    have X' := X.keeps k1
    have Ty : Looks (model prog w) h' (typeOf (.ref e)) (.ref 57) := (Looks.ld k3).andThen .now
    have Sb : Looks (model prog w) h' (isSubtype (.ref 57) (.type "BaseException")) true := looks_subIn X' (by k_is)
    have Sc : Looks (model prog w) h' (isSubtype (.ref 57) (.type "type")) false := looks_subIn X' (by k_is)
    have Tc : Looks (model prog w) h' (typeOf (.ref 57)) (.type "type") := looks_typeIn X' (by k_is)
    have Fe : Looks (model prog w) h' (field (.ref e) 1) .none := looks_field k3 1 rfl
    unfold excFromValue isExcClass isType isInstance raisedInstance setFlight
    repeat lk
    refine wpAny_handled ?_
    rw [hh]
    repeat lk
    exact wpAny_throw (h _ _ _ _ _ k1 k2 k3)
end
section
variable {M : Model} {A : Around} {E : Value → Shared → Prop} {s : Shared} {h₀ : Heap} {L a : Addr} {m : Str → Option Value} {cn : Str} {cs : Scope} {ccd : Value} {cl : List (Str × Addr)} {x : Str} {v : Value} {Q : Unit → Shared → Prop} {news : List (Addr × Obj)}
theorem storeX_Lu (F : Fr h₀ L s.heap m) (N : News h₀ L s.heap news) (h : ∀ h', Fr h₀ L h' (upd x (some v) m) → News h₀ L h' news → Q () { s with heap := h', toks := s.toks + 1 })
    (a' : cs.kind = .function) (b : (envX cn cs L a ccd cl).kindOf x = some .local) : wpAny M A (storeName (envX cn cs L a ccd cl) x v) Q E s :=
  storeX_L F N h a' b
end
end Mine
end
section
open PySem PySem.W PyProof.Rows PySem.Calls
namespace Mine
set_option maxRecDepth 100000
set_option maxHeartbeats 4000000

section
variable {prog : Program} {w : World} {A₀ A : Around} {s : Shared} {base h₀ : Heap} {outer : List Env} {L : Addr} {m mg mb : Str → Option Value} {env : Env} {news : List (Addr × Obj)} {K : Frag} {p : Program} {loose : List Str} {mean : ExcName → Option Value}
  {R : Result → Shared → Prop} {name qual : Str} {params : Arguments} {body : List Stmt} {scope : Scope} {dV kV doc pm cdv ct oc : Value} {an od : Option Addr} {osl : Array (Option Value)} {f : Addr} {args : Args} {binds : List (Str × Value)}

/-- a plain def entered that may change the objects of the ledger news -/
theorem enterM (B : Below A₀ base outer h₀) (F : Fr h₀ L s.heap m) (N : News h₀ L s.heap news) (X₀ : K.In h₀) (T : Top p loose mean mg mb h₀) (hA : A.frames = some (env :: outer)) (hf : env.frame = some L) (hke : env.scope.kind = .function)
    (ho : K.lookup f = some ⟨oc, od, .func (fnOf name qual params body scope dV kV doc pm an cdv ct), osl⟩) (hcd : codeIn K cdv qual = true) (hroom : A.depth < recursionLimit)
    (hbind : BindsTo s (fnOf name qual params body scope dV kV doc pm an cdv ct) args binds) (hloc : ∀ y ∈ binds, scope.names.lookup y.1 = some .local)
    (h : ∀ L' h₁, Fr (hideAll s.heap (news.map (·.1))) L' h₁ (fun y => binds.reverse.lookup y) → News (hideAll s.heap (news.map (·.1))) L' h₁ news → Below A base (env :: outer) (hideAll s.heap (news.map (·.1))) → K.In (hideAll s.heap (news.map (·.1))) → Top p loose mean mg mb (hideAll s.heap (news.map (·.1))) → L' = s.heap.objs.size →
      wpAny (model prog w) (A.deeper (envOf qual scope L' f cdv)) (execs body (envOf qual scope L' f cdv))
        (fun fl s' => R (.ok (.ret (match fl with | .ret v => v | _ => .none))) s')
        (fun e s' => wpAny (model prog w) (A.deeper (envOf qual scope L' f cdv)) (leaving (envOf qual scope L' f cdv) e) (fun _ s'' => R (.error e) s'') (fun e' s'' => R (.error e') s'') s')
        { s with heap := h₁, toks := s.toks + binds.length })
    (hco : scope.isCoroutine = false) (hgen : scope.isGenerator = false) (hk : scope.kind = .function)
    (hcell : ∀ x ∈ scope.names, x.2 ≠ .cell) : codeAny (model prog w) A (.call (.ref f) args) R s := by
  have X := X₀.keeps F.keep
  obtain ⟨_, BG, st, _⟩ := groundX (R := R) B F N hA hf hke
  refine codeAny_call_def (fd := fnOf name qual params body scope dV kV doc pm an cdv ct) (body := body) (binds := binds) hroom (X _ _ ho) rfl (T.nolimit.keeps F.keep) (codeRec_of X hcd) rfl hbind hcell hloc (fun h₁ hns hk₁ => ?_) hco hgen hk
  exact h s.heap.objs.size h₁ ⟨hns, fun b o e => hk₁ b o (of_hideAll _ e), Nat.le_of_eq (hideAll_size _ _)⟩
    (fun p hp => ⟨hk₁ _ _ (N p hp).1, Nat.ne_of_lt (Heap.lt_size (N p hp).1), hideAll_none _ (List.mem_map_of_mem hp)⟩) BG (X₀.keeps st) (T.keeps st) rfl

theorem InstAt.of_stand {h : Heap} {x C dx : Addr} {src : List (Addr × Obj)} {od : Obj} {sl : Array (Option Value)} (F : Fr h₀ L h m) (S : Stand src h₀) (h1 : (x, (⟨.ref C, some dx, .plain, sl⟩ : Obj)) ∈ src) (h2 : (dx, od) ∈ src) :
    InstAt h x ⟨.ref C, some dx, .plain, sl⟩ C (some od) := ⟨F.keep _ _ (S _ h1), rfl, rfl, F.keep _ _ (S _ h2)⟩

theorem make_enter {C : Addr} {rest : List Value} {fI : Addr} (F : Fr h₀ L s.heap m) (X₀ : K.In h₀) (hm : makesIn K C = true)
    (hi : findIn K (.ref C) "__init__" = some (some (.ref fI))) (hf : typeIn K (.ref fI) = some (.type "function"))
    (h : ∀ x dx h', (∀ b o, s.heap.get? b = some o → h'.get? b = some o) → s.heap.get? x = none → s.heap.get? dx = none → x ≠ dx → Fr h₀ L h' m → News h₀ L h' [(x, instObj C dx), (dx, emptyDict)] →
      codeAny (model prog w) (A.under (.builtin "type.__call__" ⟨.ref C :: rest, []⟩)) (.call (.ref fI) ⟨.ref x :: rest, []⟩) (InitBack x R) { s with heap := h' }) :
    codeAny (model prog w) A (.call (.ref C) ⟨rest, []⟩) R s := by
  have X := X₀.keeps F.keep
  obtain ⟨hh, g, d, t, os⟩ := s
  have N : News h₀ L hh [] := News.nil
  refine make_core (makes_of X hm) (looks_findIn X hi) (fun self => bind_fn X self hf) (.inl rfl) (h (hh.objs.size + 1) hh.objs.size _ (fun b o e => Heap.get?_push_of_some _ (Heap.get?_push_of_some _ e)) ?_ ?_ (Nat.succ_ne_self _) ((F.push _).push _) ?_)
  · exact Heap.get?_none_of_le (Nat.le_succ _)
  · exact Heap.get?_none_of_le (Nat.le_refl _)
  · have := (N.push F emptyDict).push (F.push _) (instObj C hh.objs.size)
    rwa [Heap.size_push] at this
end

theorem two_kept {g h' hh : Heap} {L' x dx : Addr} {m' : Str → Option Value} (hkp : ∀ b o, g.get? b = some o → h'.get? b = some o) (hx : g.get? x = none) (hdx : g.get? dx = none) {l : List Addr} (hl : l = [x, dx]) (F' : Fr (hideAll h' l) L' hh m') : g.StaysIn hh := fun b o hb =>
  F'.keep b o (hideAll_get _ (hkp b o hb) (by
    subst hl
    intro hm
    rcases List.mem_cons.mp hm with q | hm
    · rw [q, hx] at hb; cases hb
    · rw [List.mem_singleton.mp hm, hdx] at hb; cases hb))
noncomputable abbrev dEnt (w : World) (n : Str) (k : Tok) (v : Value) : DictEntry := { hash := PyData.keyHash w.params n, key := Value.str n k, val := v }
noncomputable abbrev obj3 (w : World) (n1 n2 n3 : Str) (k1 k2 k3 : Tok) (v1 v2 v3 : Value) : Obj := dictOf [dEnt w n1 k1 v1, dEnt w n2 k2 v2, dEnt w n3 k3 v3] 3
noncomputable abbrev cmdD (w : World) (k1 k2 k3 : Tok) (v1 v2 v3 : Value) : Obj := obj3 w (Str.ofString "old") (Str.ofString "new") (Str.ofString "name") k1 k2 k3 v1 v2 v3
noncomputable abbrev reqD (w : World) (k1 k2 k3 : Tok) (v1 v2 v3 : Value) : Obj := obj3 w (Str.ofString "commands") (Str.ofString "words") (Str.ofString "pack") k1 k2 k3 v1 v2 v3
end Mine
end
section
open PySem PySem.W PyProof.Rows PySem.Calls
namespace Mine
set_option maxRecDepth 100000
set_option maxHeartbeats 4000000
section
variable {prog : Program} {w : World} {A₀ A : Around} {s : Shared} {base h₀ : Heap} {outer : List Env} {L : Addr} {m mg mb : Str → Option Value} {env : Env} {news : List (Addr × Obj)} {K : Frag} {p : Program} {loose : List Str} {mean : ExcName → Option Value}
  {R : Result → Shared → Prop} {name qual : Str} {params : Arguments} {body : List Stmt} {scope : Scope} {dV kV doc pm cdv ct oc : Value} {an od : Option Addr} {osl : Array (Option Value)} {f : Addr} {args : Args} {binds : List (Str × Value)}

theorem enterCM (B : Below A₀ base outer h₀) (F : Fr h₀ L s.heap m) (N : News h₀ L s.heap news) (X₀ : K.In h₀) (T : Top p loose mean mg mb h₀) (hA : A.frames = some (env :: outer)) (hf : env.frame = some L) (hke : env.scope.kind = .function)
    (ho : K.lookup f = some ⟨oc, od, .func (fnOf name qual params body scope dV kV doc pm an cdv ct), osl⟩) (hcd : codeIn K cdv qual = true) (hroom : A.depth < recursionLimit)
    (hbind : BindsTo s (fnOf name qual params body scope dV kV doc pm an cdv ct) args binds) (hkind : (binds.all fun y => scope.names.lookup y.1 == some .local || scope.names.lookup y.1 == some .cell) = true)
    (hnd : ((cellsFrom 0 scope.names []).map (·.1)).Nodup)
    (h : ∀ L' h₁ tk cells, Fr (hideAll s.heap (news.map (·.1))) L' h₁ (bindL (envOfC qual scope L' f cdv).kindOf binds fun _ => none) → News (hideAll s.heap (news.map (·.1))) L' h₁ (cells ++ news) →
      CellsAre (bindC (envOfC qual scope L' f cdv).kindOf binds fun _ => none) (cellsFrom (L' + 1) scope.names []) cells → Below A base (env :: outer) (hideAll s.heap (news.map (·.1))) → K.In (hideAll s.heap (news.map (·.1))) → Top p loose mean mg mb (hideAll s.heap (news.map (·.1))) → (∀ p ∈ news, p.1 < L') →
      wpAny (model prog w) (A.deeper (envOfC qual scope L' f cdv)) (execs body (envOfC qual scope L' f cdv))
        (fun fl s' => R (.ok (.ret (match fl with | .ret v => v | _ => .none))) s')
        (fun e s' => wpAny (model prog w) (A.deeper (envOfC qual scope L' f cdv)) (leaving (envOfC qual scope L' f cdv) e) (fun _ s'' => R (.error e) s'') (fun e' s'' => R (.error e') s'') s')
        { s with heap := h₁, toks := tk })
    (hco : scope.isCoroutine = false) (hgen : scope.isGenerator = false) (hk : scope.kind = .function) : codeAny (model prog w) A (.call (.ref f) args) R s := by
  have X := X₀.keeps F.keep
  obtain ⟨_, BG, st, _⟩ := groundX (R := R) B F N hA hf hke
  refine codeAny_call_function hroom (X _ _ ho) rfl hco hgen rfl (codeRec_of X hcd) (hbind _ _ _ _ ?_)
  refine wpAny_newFunctionEnv_cells hk (kindsX hkind _) fun env' he s' x => ?_
  subst he
  refine ⟨(T.nolimit.keeps F.keep).keeps x.toInCall.keep, codeAny_func ?_⟩
  obtain ⟨h₁, tk, rfl, _⟩ := x.done
  have hk₁ := x.toInCall.keep
  obtain ⟨cells, NC, Y⟩ := Cl.news (h₀ := s.heap) (Nat.le_refl _) fun n c hm => ⟨x.cell n c (lookup_of_mem_nodup (cellsFrom_names scope.names 0 (s.heap.objs.size + 1) [] [] rfl ▸ hnd) hm), x.above n c hm⟩
  refine h s.heap.objs.size h₁ tk cells ⟨x.toInCall.ns, fun b o e => hk₁ b o (of_hideAll _ e), Nat.le_of_eq (hideAll_size _ _)⟩ (fun p hp => ?_) Y BG (X₀.keeps st) (T.keeps st) (fun p hp => Heap.lt_size (N p hp).1)
  rcases List.mem_append.mp hp with hp | hp
  · refine ⟨(NC p hp).1, (NC p hp).2.1, ?_⟩
    cases q : (hideAll s.heap (news.map (·.1))).get? p.1 with
    | none => rfl
    | some o => have := of_hideAll _ q; rw [(NC p hp).2.2] at this; cases this
  · exact ⟨hk₁ _ _ (N p hp).1, Nat.ne_of_lt (Heap.lt_size (N p hp).1), hideAll_none _ (List.mem_map_of_mem hp)⟩

/-- a def with cells, nothing changed of what stands -/
theorem enterC (B : Below A₀ base outer h₀) (F : Fr h₀ L s.heap m) (X₀ : K.In h₀) (T : Top p loose mean mg mb h₀) (hA : A.frames = some (env :: outer)) (hf : env.frame = some L) (hke : env.scope.kind = .function)
    (ho : K.lookup f = some ⟨oc, od, .func (fnOf name qual params body scope dV kV doc pm an cdv ct), osl⟩) (hcd : codeIn K cdv qual = true) (hroom : A.depth < recursionLimit)
    (hbind : BindsTo s (fnOf name qual params body scope dV kV doc pm an cdv ct) args binds) (hkind : (binds.all fun y => scope.names.lookup y.1 == some .local || scope.names.lookup y.1 == some .cell) = true)
    (hnd : ((cellsFrom 0 scope.names []).map (·.1)).Nodup)
    (h : ∀ L' h₁ tk cells, Fr s.heap L' h₁ (bindL (envOfC qual scope L' f cdv).kindOf binds fun _ => none) → News s.heap L' h₁ cells →
      CellsAre (bindC (envOfC qual scope L' f cdv).kindOf binds fun _ => none) (cellsFrom (L' + 1) scope.names []) cells → Below A base (env :: outer) s.heap → K.In s.heap → Top p loose mean mg mb s.heap →
      wpAny (model prog w) (A.deeper (envOfC qual scope L' f cdv)) (execs body (envOfC qual scope L' f cdv))
        (fun fl s' => R (.ok (.ret (match fl with | .ret v => v | _ => .none))) s')
        (fun e s' => wpAny (model prog w) (A.deeper (envOfC qual scope L' f cdv)) (leaving (envOfC qual scope L' f cdv) e) (fun _ s'' => R (.error e) s'') (fun e' s'' => R (.error e') s'') s')
        { s with heap := h₁, toks := tk })
    (hco : scope.isCoroutine = false) (hgen : scope.isGenerator = false) (hk : scope.kind = .function) : codeAny (model prog w) A (.call (.ref f) args) R s :=
  enterCM (news := []) B F News.nil X₀ T hA hf hke ho hcd hroom hbind hkind hnd (fun L' h₁ tk cells F' N' Y B' X' T' _ => h L' h₁ tk cells F' (by rw [List.append_nil] at N'; exact N') Y B' X' T') hco hgen hk
end
end Mine
end
section
open PySem PySem.W PyProof.Rows PySem.Calls
namespace Mine
set_option maxRecDepth 100000
set_option maxHeartbeats 4000000
section
variable {M : Model} {A : Around} {E : Value → Shared → Prop} {s' : Shared} {base g h : Heap} {outer : List Env} {L a e : Addr} {m : Str → Option Value} {name : Str} {scope : Scope} {cd : Value} {cl : List (Str × Addr)} {Q : Unit → Shared → Prop}

theorem frames_belowX (F : Fr g L h m) : ∀ {b : Addr} {o : Obj}, g.get? b = some o → b ∉ outer.filterMap (·.frame) → b ∉ (envX name scope L a cd cl :: outer).filterMap (·.frame) := by
  intro b o hb hn hm
  rcases List.mem_cons.mp hm with q | hm
  · exact absurd (Nat.lt_of_lt_of_le (Heap.lt_size hb) F.above) (by have q' : b = L := q; rw [q']; exact Nat.lt_irrefl _)
  · exact hn hm

theorem leave_freshX {oe : Obj} {vs : Array Value} {a0 : Value} (K : Below A base outer g) (F : Fr g L h m) (hkeep : ∀ b o, h.get? b = some o → s'.heap.get? b = some o) (hnew : h.get? e = none)
    (he : s'.heap.get? e = some oe) (hc : oe.cls = .ref 57) (hd : oe.data = .fields vs) (h0 : vs[0]? = some a0) (h1 : vs[1]? = some .none)
    (hQ : ∀ h', ExcAt outer g h' e → Q () { s' with heap := h' }) (hk : scope.kind = .function := by rfl) :
    wpAny M (A.deeper (envX name scope L a cd cl)) (leaving (envX name scope L a cd cl) (.ref e)) Q E s' := by
  have K' := pushX (env := envX name scope L a cd cl) K F rfl hk
  have hin : ∀ env ∈ (envX name scope L a cd cl :: outer), ∀ b, env.frame = some b → b ∈ (envX name scope L a cd cl :: outer).filterMap (·.frame) := fun env he b hb => List.mem_filterMap.mpr ⟨env, he, hb⟩
  have hen : (hideAll h ((envX name scope L a cd cl :: outer).filterMap (·.frame))).get? e = none := by
    cases q : (hideAll h ((envX name scope L a cd cl :: outer).filterMap (·.frame))).get? e with
    | none => rfl
    | some o => have := of_hideAll _ q; rw [hnew] at this; cases this
  refine wpAny_leaving_firstW (a0 := a0) K'.stack ((funFrames_hide K'.frames hin).of_keeps fun b o hb _ => ⟨o, hkeep b o hb, rfl⟩) rfl he (fun b o hb => hkeep b o (of_hideAll _ hb)) hen hd h1 h0 fun h' hL => ?_
  obtain ⟨k1, ⟨_, _, k2⟩, k3, k4⟩ := hL
  refine hQ h' ⟨_, a0, .none, k1, hen, k2, by rw [← hc]; exact k3, fun b o hb hn => ?_, ?_⟩
  · exact hideAll_get _ (F.keep b o hb) (frames_belowX (name := name) (scope := scope) (a := a) (cd := cd) (cl := cl) F hb hn)
  · exact ((Heap.UpToSlots.of_keeps F.keep).trans (Heap.UpToSlots.of_keeps hkeep)).trans k4

theorem leave_badX {d t : Addr} (he : s'.heap.get? e = some { cls := .ref 57, dict := some d, data := .fields #[.ref t, .none, .none, .none, .bool false, .none] })
    (hkeep : ∀ b o, h.get? b = some o → s'.heap.get? b = some o) (hnew : h.get? e = none) (K : Below A base outer g) (F : Fr g L h m)
    (hQ : ∀ h', ExcAt outer g h' e → Q () { s' with heap := h' }) (hk : scope.kind = .function := by rfl) :
    wpAny M (A.deeper (envX name scope L a cd cl)) (leaving (envX name scope L a cd cl) (.ref e)) Q E s' := leave_freshX K F hkeep hnew he rfl rfl rfl rfl hQ hk

theorem leave_excX (R : ExcAt (envX name scope L a cd cl :: outer) h s'.heap e) (K : Below A base outer g) (F : Fr g L h m)
    (hQ : ∀ h', ExcAt outer g h' e → Q () { s' with heap := h' }) :
    wpAny M (A.deeper (envX name scope L a cd cl)) (leaving (envX name scope L a cd cl) (.ref e)) Q E s' := by
  unfold leaving
  refine wpAny_bind (R.note (Around.frames_deeper K.stack) rfl fun h₁ R₁ => ?_)
  refine ExcAt.land (s := { s' with heap := h₁ }) R₁ fun h' B a0 hfl hB hsm => hQ h' ?_
  obtain ⟨k1, k2, ⟨_, _, k3⟩, k4⟩ := hfl
  refine ⟨B, a0, .none, k1, k2, k3, k4, fun b o hb hn => ?_, (Heap.UpToSlots.of_keeps F.keep).trans hsm⟩
  exact hB b o (F.keep b o hb) (frames_belowX (name := name) (scope := scope) (a := a) (cd := cd) (cl := cl) F hb hn)
end

theorem mono_named {α : Type} {M : Model} {A : Around} {E : Value → Shared → Prop} {s : Shared} {h₀ : Heap} {L : Addr} {m : Nms} {c : Sem α} {Q : α → Shared → Prop} (_F : Fr h₀ L s.heap m) (R : Nms → α → Shared → Prop) (h : wpAny M A c (R m) E s) (h2 : ∀ f s', R m f s' → Q f s') : wpAny M A c Q E s :=
  wpAny_mono h h2 fun _ _ e => e
theorem fr_congr {h₀ h : Heap} {L : Addr} {m m' : Nms} (F : Fr h₀ L h m) (hm : ∀ y, m y = m' y) : Fr h₀ L h m' := by
  have : m = m' := funext hm
  rw [← this]; exact F

theorem mono_named7 {α : Type} {M : Model} {A : Around} {E : Value → Shared → Prop} {s : Shared} {h₀ : Heap} {L : Addr} {m : Nms} {c : Sem α} {Q : α → Shared → Prop} {a1 a2 a3 a4 a5 a6 a7 : Addr × Obj} (_F : Fr h₀ L s.heap m) (_N : News h₀ L s.heap [a1, a2, a3, a4, a5, a6, a7])
    (X : Nms → Addr → Addr × Obj → α → Shared → Prop) (h : ∀ R : α → Shared → Prop, (∀ f s', X m L a7 f s' → R f s') → wpAny M A c R E s) (h2 : ∀ f s', X m L a7 f s' → Q f s') : wpAny M A c Q E s :=
  wpAny_mono (h _ fun _ _ x => x) h2 fun _ _ e => e
theorem news27 {h₀ h : Heap} {L : Addr} {a1 a2 a3 a4 a5 a6 a7 : Addr × Obj} (N : News h₀ L h [a1, a2, a3, a4, a5, a6, a7]) : News h₀ L h [a2, a7] := news_weak N (by simp)
theorem news34 {h₀ h : Heap} {L : Addr} {a1 a2 a3 a4 : Addr × Obj} (N : News h₀ L h [a1, a2, a3, a4]) : News h₀ L h [a3, a4] := news_weak N (by simp)
end Mine
end
section
open PySem PySem.W PyProof.Rows PySem.Calls
namespace Mine
set_option maxRecDepth 100000
set_option maxHeartbeats 4000000

/-- what a quiet call may change: the objects W, and of the frames' own dicts fs the slots -/
noncomputable def Eff (fs W : List Addr) (h h' : Heap) : Prop := ∀ b o, h.get? b = some o → b ∉ W → (b ∉ fs → h'.get? b = some o) ∧ (b ∈ fs → ∃ sl, h'.get? b = some { o with slots := sl })
theorem Eff.keeps {fs W : List Addr} {h h' : Heap} (k : h.StaysIn h') : Eff fs W h h' := fun b o e _ => ⟨fun _ => k b o e, fun _ => ⟨o.slots, k b o e⟩⟩
theorem Eff.off {fs W : List Addr} {h h' : Heap} (x : Eff fs W h h') {b : Addr} {o : Obj} (e : h.get? b = some o) (hW : b ∉ W) (hf : b ∉ fs) : h'.get? b = some o := (x b o e hW).1 hf

section
variable {prog : Program} {w : World} {A₀ : Around} {E : Value → Shared → Prop} {s' : Shared} {base g G h h' : Heap} {outer : List Env} {L a e : Addr} {m mg mb : Str → Option Value} {name : Str} {scope : Scope} {cd : Value} {cl : List (Str × Addr)}
  {b₀ : Stmt} {suite : List Stmt} {pos np : Pos} {rest : List ExceptHandler} {Q : Flow → Shared → Prop} {news : List (Addr × Obj)} {KF : Frag} {p : Program} {loose : List Str} {mean : ExcName → Option Value} {x : Str}

theorem off_frames (K : Below A₀ base outer g) (N : News g L h news) : ∀ q ∈ news, q.1 ∉ (envX name scope L a cd cl :: outer).filterMap (·.frame) := fun q hq hm => by
  rcases List.mem_cons.mp hm with z | z
  · exact (N q hq).2.1 z
  · obtain ⟨_, o, ho, _⟩ := K.frames.mem z
    rw [(N q hq).2.2] at ho; cases ho

/-- the ground of a frame behind a call that may have changed slots of the frames below -/
theorem eff_ground (K : Below A₀ base outer g) (F : Fr g L h m) (hE : Eff ((envX name scope L a cd cl :: outer).filterMap (·.frame)) [] h h') :
    ∃ g', KtsTurn (outer.filterMap (·.frame)) g g' ∧ Fr g' L h' m ∧ Below A₀ base outer g' := by
  have hmem : ∀ b, b ∈ (envX name scope L a cd cl :: outer).filterMap (·.frame) ↔ b = L ∨ b ∈ outer.filterMap (·.frame) := fun b => by
    show b ∈ L :: outer.filterMap (·.frame) ↔ _
    exact List.mem_cons
  obtain ⟨T, S⟩ := kts_turn_at (h := h') (fs := outer.filterMap (·.frame)) (g := g)
    (fun b hb => by
      obtain ⟨_, o, ho, _⟩ := K.frames.mem hb
      exact ⟨o, ho⟩)
    (fun b o e nm => (hE b o (F.keep b o e) (by simp)).1 (fun hm => by
      rcases (hmem b).mp hm with z | z
      · rw [z, kts_self F] at e; cases e
      · exact nm z))
    (fun b o e hm => (hE b o (F.keep b o e) (by simp)).2 ((hmem b).mpr (.inr hm)))
  obtain ⟨oL, es, ep, hL, hLd, r⟩ := F.ns
  obtain ⟨sl, hL'⟩ := (hE L oL hL (by simp)).2 ((hmem L).mpr (.inl rfl))
  refine ⟨_, T, ⟨⟨_, es, ep, hL', hLd, r⟩, S, by rw [T.size]; exact F.above⟩, ⟨K.stack, fun b o e => T.other b o (K.stays b o e) (fun hm => by
    rw [(K.frames.mem hm).1] at e
    cases e), K.frames.of_keeps fun b o e _ => ?_⟩⟩
  obtain ⟨sl, hs⟩ := T.up e
  exact ⟨_, hs, rfl⟩

theorem eff_news (K : Below A₀ base outer g) (N : News g L h news) (hE : Eff ((envX name scope L a cd cl :: outer).filterMap (·.frame)) [] h h') {g' : Heap} (T : KtsTurn (outer.filterMap (·.frame)) g g') : News g' L h' news := fun q hq =>
  ⟨hE.off (N q hq).1 (by simp) (off_frames K N q hq), (N q hq).2.1, T.none_ _ (N q hq).2.2⟩

theorem eff_groundW {W : List Addr} (K : Below A₀ base outer g) (F : Fr g L h m) (hW : ∀ b ∈ W, g.get? b = none ∧ b ≠ L) (hE : Eff ((envX name scope L a cd cl :: outer).filterMap (·.frame)) W h h') :
    ∃ g', KtsTurn (outer.filterMap (·.frame)) g g' ∧ Fr g' L h' m ∧ Below A₀ base outer g' := by
  have hmem : ∀ b, b ∈ (envX name scope L a cd cl :: outer).filterMap (·.frame) ↔ b = L ∨ b ∈ outer.filterMap (·.frame) := fun b => by
    show b ∈ L :: outer.filterMap (·.frame) ↔ _
    exact List.mem_cons
  have nW : ∀ b o, g.get? b = some o → b ∉ W := fun b o e hb => by rw [(hW b hb).1] at e; cases e
  obtain ⟨T, S⟩ := kts_turn_at (h := h') (fs := outer.filterMap (·.frame)) (g := g)
    (fun b hb => by
      obtain ⟨_, o, ho, _⟩ := K.frames.mem hb
      exact ⟨o, ho⟩)
    (fun b o e nm => (hE b o (F.keep b o e) (nW b o e)).1 (fun hm => by
      rcases (hmem b).mp hm with z | z
      · rw [z, kts_self F] at e; cases e
      · exact nm z))
    (fun b o e hm => (hE b o (F.keep b o e) (nW b o e)).2 ((hmem b).mpr (.inr hm)))
  obtain ⟨oL, es, ep, hL, hLd, r⟩ := F.ns
  obtain ⟨sl, hL'⟩ := (hE L oL hL (fun hb => (hW L hb).2 rfl)).2 ((hmem L).mpr (.inl rfl))
  refine ⟨_, T, ⟨⟨_, es, ep, hL', hLd, r⟩, S, by rw [T.size]; exact F.above⟩, ⟨K.stack, fun b o e => T.other b o (K.stays b o e) (fun hm => by
    rw [(K.frames.mem hm).1] at e
    cases e), K.frames.of_keeps fun b o e _ => ?_⟩⟩
  obtain ⟨sl, hs⟩ := T.up e
  exact ⟨_, hs, rfl⟩

theorem eff_newsW {t : Addr} {o o' : Obj} {gg : Obj → List (Addr × Obj)} (K : Below A₀ base outer g) (N : News g L h news) (U : UpdF t o news gg) (ho' : h'.get? t = some o') (hE : Eff ((envX name scope L a cd cl :: outer).filterMap (·.frame)) [t] h h') {g' : Heap} (T : KtsTurn (outer.filterMap (·.frame)) g g') : News g' L h' (gg o') := by
  obtain ⟨own, rest, rfl, hg, h1, h2⟩ := U.split
  have key : ∀ q ∈ own ++ (t, o) :: rest, q.1 ≠ t → h'.get? q.1 = some q.2 ∧ q.1 ≠ L ∧ g'.get? q.1 = none := fun q hq hn =>
    ⟨hE.off (N q hq).1 (by simpa using hn) (off_frames K N q hq), (N q hq).2.1, T.none_ _ (N q hq).2.2⟩
  intro q hq
  rw [hg] at hq
  rcases List.mem_append.mp hq with hq | hq
  · exact key q (List.mem_append_left _ hq) (h1 q hq)
  · rcases List.mem_cons.mp hq with rfl | hq
    · have := N (t, o) (List.mem_append_right _ List.mem_cons_self)
      exact ⟨ho', this.2.1, T.none_ _ this.2.2⟩
    · exact key q (List.mem_append_right _ (List.mem_cons_of_mem _ hq)) (h2 q hq)

theorem eff_ret {fs : List Addr} {g' h'' : Heap} {L' : Addr} {m' : Str → Option Value} (T : KtsTurn fs h g') (F : Fr g' L' h'' m') : Eff fs [] h h'' := fun b o e _ =>
  ⟨fun hn => F.keep _ _ (T.other b o e hn), fun hm => by
    obtain ⟨sl, hs⟩ := T.frame b o e hm
    exact ⟨sl, F.keep _ _ hs⟩⟩
theorem eff_retW {fs W : List Addr} {g' h'' : Heap} {L' : Addr} {m' : Str → Option Value} (T : KtsTurn fs (hideAll h W) g') (F : Fr g' L' h'' m') : Eff fs W h h'' := fun b o e hW =>
  have e' := hideAll_get W e hW
  ⟨fun hn => F.keep _ _ (T.other b o e' hn), fun hm => by
    obtain ⟨sl, hs⟩ := T.frame b o e' hm
    exact ⟨sl, F.keep _ _ hs⟩⟩
theorem turn_new {fs : List Addr} {g' : Heap} (T : KtsTurn fs h g') {b : Addr} (hb : g'.get? b = none) : h.get? b = none := by
  cases q : h.get? b with
  | none => rfl
  | some o => obtain ⟨sl, hs⟩ := T.up q; rw [hb] at hs; cases hs

theorem dicts_push (D : KtsDicts (outer.filterMap (·.frame)) g) (F : Fr g L h m) : KtsDicts ((envX name scope L a cd cl :: outer).filterMap (·.frame)) h := fun b hb => by
  rcases List.mem_cons.mp (show b ∈ L :: outer.filterMap (·.frame) from hb) with rfl | hb
  · obtain ⟨oL, es, ep, hL, hLd, _⟩ := F.ns
    exact ⟨oL, es, ep, hL, hLd⟩
  · obtain ⟨o, es, n, ho, hd⟩ := D b hb
    exact ⟨o, es, n, F.keep _ _ ho, hd⟩
theorem dicts_hide {fs W : List Addr} (D : KtsDicts fs h) (hW : ∀ b ∈ fs, b ∉ W) : KtsDicts fs (hideAll h W) := fun b hb => by
  obtain ⟨o, es, n, ho, hd⟩ := D b hb
  exact ⟨o, es, n, hideAll_get W ho (hW b hb), hd⟩
theorem off_dicts {fs : List Addr} {b : Addr} {o : Obj} (D : KtsDicts fs h) (e : h.get? b = some o) (hd : ∀ es n, o.data ≠ .dict es n) : b ∉ fs := fun hb => by
  obtain ⟨o', es, n, ho, hd'⟩ := D b hb
  rw [e] at ho
  cases ho
  exact hd es n hd'
/-- what is no dict stays as it is behind a turn -/
theorem turn_keep {fs : List Addr} {g' : Heap} {b : Addr} {o : Obj} (D : KtsDicts fs h) (T : KtsTurn fs h g') (e : h.get? b = some o) (hd : ∀ es n, o.data ≠ .dict es n) : g'.get? b = some o := T.other _ _ e (off_dicts D e hd)
/-- what an exception that was caught has changed -/
theorem eff_of {B : Heap} {l : List Env} {a0 : Value} (hfr : ∀ b ∈ l.filterMap (·.frame), ∃ o, h.get? b = some o ∧ ∀ vs, o.data ≠ .fields vs) (hfl : Heap.FlyingW B l e (.ref 57) a0 h') (hB : ∀ b o, h.get? b = some o → b ∉ l.filterMap (·.frame) → B.get? b = some o) (hsm : h.UpToSlots h') :
    Eff (l.filterMap (·.frame)) [] h h' := fun b o eb _ => ⟨fun hn => hfl.1 b o (hB b o eb hn), fun hm => by
  obtain ⟨o', ho', hd⟩ := hfr b hm
  rw [eb] at ho'
  cases ho'
  exact hsm b o eb hd⟩

/-- an exception of BadLine is caught in the frame in which the call stood -/
theorem caught (R : ExcAt (envOf name scope L a cd :: outer) h s'.heap e) (F : Fr g L h m) (K : Below A₀ base outer g) (N : News g L h news) (XB : KF.In base) (TB : Top p loose mean mg mb base)
    (ex : nsIn KF mainGlobals x = some (some (.ref 57))) (q : ktsIn KF 57 "BaseException" = true) (hk : scope.kind = .function)
    (k : ∀ h' g', Eff ((envOf name scope L a cd :: outer).filterMap (·.frame)) [] h h' → KtsTurn (outer.filterMap (·.frame)) g g' → Fr g' L h' m → News g' L h' news → Below A₀ base outer g' → KF.In g' → Top p loose mean mg mb g' →
      wpAny (model prog w) ((A₀.deeper (envOf name scope L a cd)).mark (some (.ref e))) (execs (b₀ :: suite) (envOf name scope L a cd)) Q NoE { s' with heap := h' })
    (hx : (envOf name scope L a cd).kindOf x = some .globalImplicit := by rfl) (hd : (x == ("__debug__" : Str)) = false := by decide) :
    wpAny (model prog w) (A₀.deeper (envOf name scope L a cd)) (noteFrame (.ref e) (envOf name scope L a cd))
      (fun _ s₂ => wpAny (model prog w) (A₀.deeper (envOf name scope L a cd)) (setFlight (.ref e) none) (fun _ s₃ =>
        wpAny (model prog w) (A₀.deeper (envOf name scope L a cd)) (handleBy (.ref e) (envOf name scope L a cd) (.ExceptHandler (some (.Name x np)) none (b₀ :: suite) pos :: rest)) Q E s₃) E s₂) E s' := by
  have hfr : ∀ b ∈ (envX name scope L a cd [] :: outer).filterMap (·.frame), ∃ o, h.get? b = some o ∧ ∀ vs, o.data ≠ .fields vs := fun b hb => by
    rcases List.mem_cons.mp (show b ∈ L :: outer.filterMap (·.frame) from hb) with rfl | hb
    · obtain ⟨oL, es, ep, hL, hLd, _⟩ := F.ns
      exact ⟨oL, hL, fun vs => by rw [hLd]; intro z; cases z⟩
    · obtain ⟨_, o, ho, hdd⟩ := K.frames.mem hb
      exact ⟨o, F.keep _ _ ho, hdd⟩
  refine ExcAt.note (Around.frames_deeper K.stack) rfl R fun h₄ R₄ => ?_
  refine ExcAt.land (s := { s' with heap := h₄ }) R₄ fun h₅ B a0 hfl hB hsm => ?_
  have E₅ := eff_of hfr hfl hB hsm
  obtain ⟨g₅, T₅, F₅, K₅⟩ := eff_ground (cl := []) K F E₅
  have X₅ : KF.In g₅ := XB.keeps K₅.stays
  have P₅ : TopRead p loose mg mb g₅ := topRead_of (TB.keeps K₅.stays)
  obtain ⟨ob, hob, hobc⟩ := hfl.there
  obtain ⟨nm, q', N', bs, bm, hdct, sn, sub, ab, col, dd, k0, k1, k2, k3, k5, newId, hC, hbase, hbT⟩ := kts_cls X₅ q
  have hC₅ := F₅.keep _ _ hC
  refine wpAny_handleBy_cons (codeAny_handlers_test (name_K F₅ X₅ P₅ ex ?_ hk hx hd)) (by intro q; cases q)
  refine wpAny_excMatches_sub_self hC₅ hob hobc hbase (codeAny_handlers_suite ?_)
  have R₅ : ExcAt (envX name scope L a cd [] :: outer) h h₅ e := by
    obtain ⟨k1, k2, k3, k4⟩ := hfl
    exact ⟨B, a0, .none, k1, k2, k3, k4, hB, hsm⟩
  refine ExcAt.land (s := { s' with heap := h₅ }) R₅ fun h₆ B₆ a6 hfl₆ hB₆ hsm₆ => ?_
  have E₆ := eff_of hfr hfl₆ hB₆ hsm₆
  obtain ⟨g₆, T₆, F₆, K₆⟩ := eff_ground (cl := []) K F E₆
  exact wpAny_mono (k h₆ g₆ E₆ T₆ F₆ (eff_news (cl := []) K N E₆ T₆) K₆ (XB.keeps K₆.stays) (TB.keeps K₆.stays)) (fun _ _ z => z) fun _ _ z => z.elim
end
end Mine
end
section
open PySem PySem.W PyProof.Rows PySem.Calls
namespace Mine
set_option maxRecDepth 100000
set_option maxHeartbeats 4000000
section
variable {prog : Program} {w : World} {A : Around} {E : Value → Shared → Prop} {s : Shared} {h₀ : Heap} {env : Env} {x : Str} {body : List Stmt} {Q : Flow → Shared → Prop}

/-- one turn of a loop whose ground may change -/
noncomputable def TurnU (prog : Program) (w : World) (A : Around) (env : Env) (body : List Stmt) (Q : Flow → Shared → Prop) (s₁ : Shared) (src : List (Addr × Obj)) (Jn : Heap → Nms → List (Addr × Obj) → Prop)
    (g : Heap) (m : Nms) (news : List (Addr × Obj)) (h : Heap) (tk : Nat) : Prop :=
  ∀ (I : Addr) (oI : Obj) (Q' : Flow → Shared → Prop) (E' : Value → Shared → Prop), Fr g env.locals h m → News g env.locals h ((I, oI) :: news) → (∀ p ∈ news, p.1 ≠ I) →
    (∀ f g' m' news' h' tk', (f = .next ∨ f = .cont) → Fr g' env.locals h' m' → News g' env.locals h' ((I, oI) :: news') → (∀ p ∈ news', p.1 ≠ I) → Stand src h' → Jn g' m' news' → Q' f { s₁ with heap := h', toks := tk' }) →
    (∀ s', Q .next s' → Q' .brk s') → (∀ r s', Q (.ret r) s' → Q' (.ret r) s') →
    wpAny (model prog w) A (execs body env) Q' E' { s₁ with heap := h, toks := tk }

noncomputable def ForGoU (prog : Program) (w : World) (A : Around) (h₀ : Heap) (env : Env) (x : Str) (body : List Stmt) (Q : Flow → Shared → Prop) (xv : Value) (s₁ : Shared) : Prop :=
  ∃ (α : Type) (xs : List α) (V : α → Value → Prop) (src : List (Addr × Obj)) (m : Nms) (news : List (Addr × Obj)) (J : Nat → Heap → Nms → List (Addr × Obj) → Prop),
    IterOf prog w A xv s₁.heap xs V src ∧ Fr h₀ env.locals s₁.heap m ∧ News h₀ env.locals s₁.heap news ∧ J 0 h₀ m news ∧
    (∀ i a v g m₁ news₁ h tk, xs[i]? = some a → V a v → J i g m₁ news₁ → Stand src h → TurnU prog w A env body Q s₁ src (J (i + 1)) g (upd x (some v) m₁) news₁ h tk) ∧
    (∀ g m' news' h' tk', J xs.length g m' news' → Stand src h' → Fr g env.locals h' m' → News g env.locals h' news' → Q .next { s₁ with heap := h', toks := tk' })

end
section
noncomputable def for_ruleU_S : Prop := (∀ (prog : Program) (w : World) (A : Around) (E : Value → Shared → Prop) (s : Shared) (h₀ : Heap) (env : Env) (x : Str) (body : List Stmt) (Q : Flow → Shared → Prop) (px : Pos) (pos : Pos) (iter : Expr) (m₀ : Nms) (_F₀ : Fr h₀ env.locals s.heap m₀) (hx : env.kindOf x = some .local) (hp : (env.scope.kind == .class || (env.scope.kind == .module && env.locals != env.globals)) = false) (h : wpAny (model prog w) A (eval iter env) (ForGoU prog w A h₀ env x body Q) E s) (hs : ∀ x, foldedSetIterable iter env x = pure x), wpAny (model prog w) A (exec (.For (.Name x px) iter body [] pos) env) Q E s)
noncomputable def for_ruleU_sb1 : { pQ : (Program) → (World) → (Around) → (Value → Shared → Prop) → (Heap) → (Env) → (Str) → (List Stmt) → (Flow → Shared → Prop) → (Pos) → (Pos) → (Expr) → (Shared) → (Value) → Prop // (∀ (prog : Program) (w : World) (A : Around) (E : Value → Shared → Prop) (h₀ : Heap) (env : Env) (x : Str) (body : List Stmt) (Q : Flow → Shared → Prop) (px : Pos) (pos : Pos) (iter : Expr) (s₁ : Shared) (xv : Value), pQ prog w A E h₀ env x body Q px pos iter s₁ xv) → for_ruleU_S } := ⟨_, by
  intro hP_e0
  intro prog w A E s h₀ env x body Q px pos iter m₀ _F₀ hx hp h hs
  refine wpAny_For (wpAny_mono h (fun xv s₁ h₁ => ?_) fun _ _ e => e) hs
  revert hx hp h₁; exact hP_e0 prog w A E h₀ env x body Q px pos iter s₁ xv⟩
namespace for_ruleU_e0
noncomputable def c0 : (Program) × (World) × (Around) × (Value → Shared → Prop) × (Heap) × (Env) × (Str) × (List Stmt) × (Flow → Shared → Prop) × (Pos) × (Pos) × (Expr) × (Shared) × (Value) × Unit := pick ⟨⟨default, dW, dA, default, default, default, default, default, default, default, default, default, dS, default, ()⟩⟩ fun q => for_ruleU_sb1.1 q.1 q.2.1 q.2.2.1 q.2.2.2.1 q.2.2.2.2.1 q.2.2.2.2.2.1 q.2.2.2.2.2.2.1 q.2.2.2.2.2.2.2.1 q.2.2.2.2.2.2.2.2.1 q.2.2.2.2.2.2.2.2.2.1 q.2.2.2.2.2.2.2.2.2.2.1 q.2.2.2.2.2.2.2.2.2.2.2.1 q.2.2.2.2.2.2.2.2.2.2.2.2.1 q.2.2.2.2.2.2.2.2.2.2.2.2.2.1
@[irreducible] noncomputable def prog : Program := c0.1
@[irreducible] noncomputable def w : World := c0.2.1
@[irreducible] noncomputable def A : Around := c0.2.2.1
@[irreducible] noncomputable def E : Value → Shared → Prop := c0.2.2.2.1
@[irreducible] noncomputable def h₀ : Heap := c0.2.2.2.2.1
@[irreducible] noncomputable def env : Env := c0.2.2.2.2.2.1
@[irreducible] noncomputable def x : Str := c0.2.2.2.2.2.2.1
@[irreducible] noncomputable def body : List Stmt := c0.2.2.2.2.2.2.2.1
@[irreducible] noncomputable def Q : Flow → Shared → Prop := c0.2.2.2.2.2.2.2.2.1
@[irreducible] noncomputable def px : Pos := c0.2.2.2.2.2.2.2.2.2.1
@[irreducible] noncomputable def pos : Pos := c0.2.2.2.2.2.2.2.2.2.2.1
@[irreducible] noncomputable def iter : Expr := c0.2.2.2.2.2.2.2.2.2.2.2.1
@[irreducible] noncomputable def s₁ : Shared := c0.2.2.2.2.2.2.2.2.2.2.2.2.1
@[irreducible] noncomputable def xv : Value := c0.2.2.2.2.2.2.2.2.2.2.2.2.2.1
noncomputable def for_ruleU_sb2 : { pQ : (α : Type) → (List α) → (α → Value → Prop) → (List (Addr × Obj)) → (Nms) → (List (Addr × Obj)) → (Nat → Heap → Nms → List (Addr × Obj) → Prop) → (Obj) → (List Addr) → (Nat → Heap → Prop) → (Addr) → Prop // (∀ (α : Type) (xs : List α) (V : α → Value → Prop) (src : List (Addr × Obj)) (m : Nms) (news : List (Addr × Obj)) (J : Nat → Heap → Nms → List (Addr × Obj) → Prop) (o : Obj) (fp : List Addr) (St : Nat → Heap → Prop) (I : Addr), pQ α xs V src m news J o fp St I) → for_ruleU_sb1.1 prog w A E h₀ env x body Q px pos iter s₁ xv } := ⟨_, by
  intro hP_en
  intro hx hp h₁
  obtain ⟨α, xs, V, src, m, news, J, ⟨h1, h1d, h2⟩, F, N, hj, turn, done⟩ := h₁
  refine h2 s₁ _ _ rfl fun o fp St Sr hfree hnd hfp hst => ?_
  generalize hI : s₁.heap.objs.size = I at Sr hfp hst
  have hIL : env.locals ≠ I := by rw [← hI]; exact Nat.ne_of_lt F.ns.lt
  have hI₀ : h₀.get? I = none := by rw [← hI]; exact next_is_new F
  have hsrcI : ∀ p ∈ src, p.1 ≠ I := fun p hp => by rw [← hI]; exact Nat.ne_of_lt (Heap.lt_size (h1 p hp))
  have hsrcL : ∀ p ∈ src, p.1 ≠ env.locals := fun p hp q => by
    obtain ⟨oL, es, ep, hL, hd, _⟩ := F.ns
    rw [← q, h1 p hp] at hL
    cases hL
    exact h1d p hp es ep hd
  have hE' : ∀ e s', NoE e s' → notedBy (model prog w) A env (fun e s' => cameBackBy (model prog w) A env E e s') e s' := fun _ _ z => z.elim
  revert hx hp h1 F N hj turn done hst hI Sr hIL hI₀ hsrcI hsrcL hE'; exact hP_en α xs V src m news J o fp St I⟩
namespace en
noncomputable def c0 : (α : Type) × (List α) × (α → Value → Prop) × (List (Addr × Obj)) × (Nms) × (List (Addr × Obj)) × (Nat → Heap → Nms → List (Addr × Obj) → Prop) × (Obj) × (List Addr) × (Nat → Heap → Prop) × (Addr) × Unit := pick ⟨⟨PUnit, default, default, default, default, default, default, default, default, default, default, ()⟩⟩ fun q => for_ruleU_sb2.1 q.1 q.2.1 q.2.2.1 q.2.2.2.1 q.2.2.2.2.1 q.2.2.2.2.2.1 q.2.2.2.2.2.2.1 q.2.2.2.2.2.2.2.1 q.2.2.2.2.2.2.2.2.1 q.2.2.2.2.2.2.2.2.2.1 q.2.2.2.2.2.2.2.2.2.2.1
@[irreducible] noncomputable def α : Type := c0.1
@[irreducible] noncomputable def xs : List α := by with_unfolding_all exact c0.2.1
@[irreducible] noncomputable def V : α → Value → Prop := by with_unfolding_all exact c0.2.2.1
@[irreducible] noncomputable def src : List (Addr × Obj) := c0.2.2.2.1
@[irreducible] noncomputable def m : Nms := c0.2.2.2.2.1
@[irreducible] noncomputable def news : List (Addr × Obj) := c0.2.2.2.2.2.1
@[irreducible] noncomputable def J : Nat → Heap → Nms → List (Addr × Obj) → Prop := c0.2.2.2.2.2.2.1
@[irreducible] noncomputable def o : Obj := c0.2.2.2.2.2.2.2.1
@[irreducible] noncomputable def fp : List Addr := c0.2.2.2.2.2.2.2.2.1
@[irreducible] noncomputable def St : Nat → Heap → Prop := c0.2.2.2.2.2.2.2.2.2.1
@[irreducible] noncomputable def I : Addr := c0.2.2.2.2.2.2.2.2.2.2.1
noncomputable def for_ruleU_sb3 : { pQ : (Heap) → (Nat) → (Heap) → (Nms) → (List (Addr × Obj)) → (Nat) → Prop // (∀ (h' : Heap) (tk : Nat) (g : Heap) (m' : Nms) (news' : List (Addr × Obj)) (i : Nat), pQ h' tk g m' news' i) → for_ruleU_sb2.1 α xs V src m news J o fp St I } := ⟨_, by
  intro hP_go
  intro hx hp h1 F N hj turn done hst hI Sr hIL hI₀ hsrcI hsrcL hE'
  refine codeAny_forLoop (R := fun r s' => match r with | .ok f => Q f s' | .error e => cameBackBy (model prog w) A env E e s')
    (fun k s' => ∃ h' tk g m' news' i, s' = { s₁ with heap := h', toks := tk } ∧ St i h' ∧ Stand src h' ∧ g.get? I = none ∧ Fr g env.locals h' m' ∧ News g env.locals h' news' ∧ (∀ p ∈ news', p.1 ≠ I) ∧ J i g m' news' ∧ i ≤ xs.length ∧ k = xs.length + 1 - i) ?_ (xs.length + 1)
    ⟨s₁.heap.push o, s₁.toks, h₀, m, news, 0, rfl, hst, fun p hp => Heap.get?_push_of_some _ (h1 p hp), hI₀, F.push _, fun p hp => ⟨Heap.get?_push_of_some _ (N p hp).1, (N p hp).2⟩, fun p hp => by rw [← hI]; exact Nat.ne_of_lt (Heap.lt_size (N p hp).1), hj, Nat.zero_le _, rfl⟩
  rintro k s' ⟨h', tk, g, m', news', i, rfl, hst', hS', hIg, F', N', hnI, hJ, hi, rfl⟩
  revert hx hp turn done Sr hIL hsrcI hsrcL hE' hst' hS' hIg F' N' hnI hJ hi; exact hP_go h' tk g m' news' i⟩
namespace go
noncomputable def c0 : (Heap) × (Nat) × (Heap) × (Nms) × (List (Addr × Obj)) × (Nat) × Unit := pick ⟨⟨default, default, default, default, default, default, ()⟩⟩ fun q => for_ruleU_sb3.1 q.1 q.2.1 q.2.2.1 q.2.2.2.1 q.2.2.2.2.1 q.2.2.2.2.2.1
@[irreducible] noncomputable def h' : Heap := c0.1
@[irreducible] noncomputable def tk : Nat := c0.2.1
@[irreducible] noncomputable def g : Heap := c0.2.2.1
@[irreducible] noncomputable def m' : Nms := c0.2.2.2.1
@[irreducible] noncomputable def news' : List (Addr × Obj) := c0.2.2.2.2.1
@[irreducible] noncomputable def i : Nat := c0.2.2.2.2.2.1
theorem main : for_ruleU_sb3.1 h' tk g m' news' i := by
  intro hx hp turn done Sr hIL hsrcI hsrcL hE' hst' hS' hIg F' N' hnI hJ hi
  have next : ∀ h₁ : Heap, (∀ b o, b ∉ [I] → h'.get? b = some o → h₁.get? b = some o) → Fr g env.locals h₁ m' ∧ News g env.locals h₁ news' ∧ Stand src h₁ := fun h₁ hk₁ =>
    ⟨LCg.fr_but F' hk₁ hIL hIg, LCg.news_but N' hk₁ hnI, fun p hp => hk₁ _ _ (by simpa using hsrcI p hp) (hS' p hp)⟩
  by_cases hlt : i < xs.length
  · refine Sr.walks.item i _ _ _ hlt hst' fun v h₁ tk₁ hP hst₁ hk₁ => ?_
    obtain ⟨a, ha, hV⟩ := hP
    obtain ⟨F₁, N₁, S₁⟩ := next h₁ hk₁
    refine wpAny_assign_Name (wpAny_storeName_local hx F₁.ns (fun h₂ hn₂ hs₂ => ?_) hp)
    have F₂ := F₁.set hn₂ hs₂
    have N₂ := N₁.set hs₂
    have S₂ : Stand src h₂ := fun p hp => (hs₂.2 p.1 (hsrcL p hp)).trans (S₁ p hp)
    obtain ⟨oI, heI⟩ := Sr.it _ _ hst₁
    have heI₂ : h₂.get? I = some oI := (hs₂.2 I (Ne.symm hIL)).trans heI
    have hst₂ := Sr.stay _ _ _ _ hst₁ heI heI₂ S₂
    let T : Shared → Prop := fun s₃ => ∃ k', k' < xs.length + 1 - i ∧ ∃ h' tk g m' news' i, s₃ = { s₁ with heap := h', toks := tk } ∧ St i h' ∧ Stand src h' ∧ g.get? I = none ∧ Fr g env.locals h' m' ∧ News g env.locals h' news' ∧ (∀ p ∈ news', p.1 ≠ I) ∧ J i g m' news' ∧ i ≤ xs.length ∧ k' = xs.length + 1 - i
    refine wpAny_mono (turn i a v g m' news' h₂ _ ha hV hJ S₂ I oI (fun f s₃ => match f with
      | .next => T s₃
      | .cont => T s₃
      | .brk => Q .next s₃
      | .ret v => Q (.ret v) s₃) NoE F₂ (fun p hp => ?_) hnI (fun f g₃ m₃ news₃ h₃ tk₃ hf₃ F₃ N₃ hn₃ S₃ J₃ => ?_) (fun _ q => q) (fun _ _ q => q)) (fun f s₃ q => ?_) hE'
    · rcases List.mem_cons.mp hp with rfl | hp
      · exact ⟨heI₂, Ne.symm hIL, hIg⟩
      · exact N₂ p hp
    · have : T { s₁ with heap := h₃, toks := tk₃ } :=
        ⟨xs.length + 1 - (i + 1), by omega, h₃, tk₃, g₃, m₃, news₃, i + 1, rfl, Sr.stay _ _ _ _ hst₂ heI₂ (N₃ (I, oI) List.mem_cons_self).1 S₃, S₃, (N₃ (I, oI) List.mem_cons_self).2.2, F₃, fun p hp => N₃ p (List.mem_cons_of_mem _ hp), hn₃, J₃, hlt, rfl⟩
      rcases hf₃ with rfl | rfl <;> exact this
    · cases f <;> exact q
  · have hil : i = xs.length := by omega
    rw [hil] at hst' hJ
    refine Sr.walks.done _ _ _ hst' fun h₁ tk₁ hk₁ => wpAny_execs_nil ?_
    obtain ⟨F₁, N₁, S₁⟩ := next h₁ hk₁
    exact done g m' news' h₁ tk₁ hJ S₁ F₁ N₁
theorem all : ∀ a0 a1 a2 a3 a4 a5, for_ruleU_sb3.1 a0 a1 a2 a3 a4 a5 := by
  have q1 : (fun q : (Heap) × (Nat) × (Heap) × (Nms) × (List (Addr × Obj)) × (Nat) × Unit => for_ruleU_sb3.1 q.1 q.2.1 q.2.2.1 q.2.2.2.1 q.2.2.2.2.1 q.2.2.2.2.2.1) (pick ⟨⟨default, default, default, default, default, default, ()⟩⟩ fun q => for_ruleU_sb3.1 q.1 q.2.1 q.2.2.1 q.2.2.2.1 q.2.2.2.2.1 q.2.2.2.2.2.1) := by with_unfolding_all exact main
  exact fun a0 a1 a2 a3 a4 a5 => pick_spec (P := fun q : (Heap) × (Nat) × (Heap) × (Nms) × (List (Addr × Obj)) × (Nat) × Unit => for_ruleU_sb3.1 q.1 q.2.1 q.2.2.1 q.2.2.2.1 q.2.2.2.2.1 q.2.2.2.2.2.1) (ne := ⟨⟨default, default, default, default, default, default, ()⟩⟩) q1 ⟨a0, a1, a2, a3, a4, a5, ()⟩
end go
theorem main : for_ruleU_sb2.1 α xs V src m news J o fp St I := for_ruleU_sb3.2 go.all
theorem all : ∀ a0 a1 a2 a3 a4 a5 a6 a7 a8 a9 a10, for_ruleU_sb2.1 a0 a1 a2 a3 a4 a5 a6 a7 a8 a9 a10 := by
  have q1 : (fun q : (α : Type) × (List α) × (α → Value → Prop) × (List (Addr × Obj)) × (Nms) × (List (Addr × Obj)) × (Nat → Heap → Nms → List (Addr × Obj) → Prop) × (Obj) × (List Addr) × (Nat → Heap → Prop) × (Addr) × Unit => for_ruleU_sb2.1 q.1 q.2.1 q.2.2.1 q.2.2.2.1 q.2.2.2.2.1 q.2.2.2.2.2.1 q.2.2.2.2.2.2.1 q.2.2.2.2.2.2.2.1 q.2.2.2.2.2.2.2.2.1 q.2.2.2.2.2.2.2.2.2.1 q.2.2.2.2.2.2.2.2.2.2.1) (pick ⟨⟨PUnit, default, default, default, default, default, default, default, default, default, default, ()⟩⟩ fun q => for_ruleU_sb2.1 q.1 q.2.1 q.2.2.1 q.2.2.2.1 q.2.2.2.2.1 q.2.2.2.2.2.1 q.2.2.2.2.2.2.1 q.2.2.2.2.2.2.2.1 q.2.2.2.2.2.2.2.2.1 q.2.2.2.2.2.2.2.2.2.1 q.2.2.2.2.2.2.2.2.2.2.1) := by with_unfolding_all exact main
  exact fun a0 a1 a2 a3 a4 a5 a6 a7 a8 a9 a10 => pick_spec (P := fun q : (α : Type) × (List α) × (α → Value → Prop) × (List (Addr × Obj)) × (Nms) × (List (Addr × Obj)) × (Nat → Heap → Nms → List (Addr × Obj) → Prop) × (Obj) × (List Addr) × (Nat → Heap → Prop) × (Addr) × Unit => for_ruleU_sb2.1 q.1 q.2.1 q.2.2.1 q.2.2.2.1 q.2.2.2.2.1 q.2.2.2.2.2.1 q.2.2.2.2.2.2.1 q.2.2.2.2.2.2.2.1 q.2.2.2.2.2.2.2.2.1 q.2.2.2.2.2.2.2.2.2.1 q.2.2.2.2.2.2.2.2.2.2.1) (ne := ⟨⟨PUnit, default, default, default, default, default, default, default, default, default, default, ()⟩⟩) q1 ⟨a0, a1, a2, a3, a4, a5, a6, a7, a8, a9, a10, ()⟩
end en
theorem main : for_ruleU_sb1.1 prog w A E h₀ env x body Q px pos iter s₁ xv := for_ruleU_sb2.2 en.all
theorem all : ∀ a0 a1 a2 a3 a4 a5 a6 a7 a8 a9 a10 a11 a12 a13, for_ruleU_sb1.1 a0 a1 a2 a3 a4 a5 a6 a7 a8 a9 a10 a11 a12 a13 := by
  have q1 : (fun q : (Program) × (World) × (Around) × (Value → Shared → Prop) × (Heap) × (Env) × (Str) × (List Stmt) × (Flow → Shared → Prop) × (Pos) × (Pos) × (Expr) × (Shared) × (Value) × Unit => for_ruleU_sb1.1 q.1 q.2.1 q.2.2.1 q.2.2.2.1 q.2.2.2.2.1 q.2.2.2.2.2.1 q.2.2.2.2.2.2.1 q.2.2.2.2.2.2.2.1 q.2.2.2.2.2.2.2.2.1 q.2.2.2.2.2.2.2.2.2.1 q.2.2.2.2.2.2.2.2.2.2.1 q.2.2.2.2.2.2.2.2.2.2.2.1 q.2.2.2.2.2.2.2.2.2.2.2.2.1 q.2.2.2.2.2.2.2.2.2.2.2.2.2.1) (pick ⟨⟨default, dW, dA, default, default, default, default, default, default, default, default, default, dS, default, ()⟩⟩ fun q => for_ruleU_sb1.1 q.1 q.2.1 q.2.2.1 q.2.2.2.1 q.2.2.2.2.1 q.2.2.2.2.2.1 q.2.2.2.2.2.2.1 q.2.2.2.2.2.2.2.1 q.2.2.2.2.2.2.2.2.1 q.2.2.2.2.2.2.2.2.2.1 q.2.2.2.2.2.2.2.2.2.2.1 q.2.2.2.2.2.2.2.2.2.2.2.1 q.2.2.2.2.2.2.2.2.2.2.2.2.1 q.2.2.2.2.2.2.2.2.2.2.2.2.2.1) := by with_unfolding_all exact main
  exact fun a0 a1 a2 a3 a4 a5 a6 a7 a8 a9 a10 a11 a12 a13 => pick_spec (P := fun q : (Program) × (World) × (Around) × (Value → Shared → Prop) × (Heap) × (Env) × (Str) × (List Stmt) × (Flow → Shared → Prop) × (Pos) × (Pos) × (Expr) × (Shared) × (Value) × Unit => for_ruleU_sb1.1 q.1 q.2.1 q.2.2.1 q.2.2.2.1 q.2.2.2.2.1 q.2.2.2.2.2.1 q.2.2.2.2.2.2.1 q.2.2.2.2.2.2.2.1 q.2.2.2.2.2.2.2.2.1 q.2.2.2.2.2.2.2.2.2.1 q.2.2.2.2.2.2.2.2.2.2.1 q.2.2.2.2.2.2.2.2.2.2.2.1 q.2.2.2.2.2.2.2.2.2.2.2.2.1 q.2.2.2.2.2.2.2.2.2.2.2.2.2.1) (ne := ⟨⟨default, dW, dA, default, default, default, default, default, default, default, default, default, dS, default, ()⟩⟩) q1 ⟨a0, a1, a2, a3, a4, a5, a6, a7, a8, a9, a10, a11, a12, a13, ()⟩
end for_ruleU_e0
end
section
variable {prog : Program} {w : World} {A : Around} {E : Value → Shared → Prop} {s : Shared} {h₀ : Heap} {env : Env} {x : Str} {body : List Stmt} {Q : Flow → Shared → Prop}
theorem for_ruleU {px pos : Pos} {iter : Expr} {m₀ : Nms} (_F₀ : Fr h₀ env.locals s.heap m₀) (hx : env.kindOf x = some .local)
    (hp : (env.scope.kind == .class || (env.scope.kind == .module && env.locals != env.globals)) = false)
    (h : wpAny (model prog w) A (eval iter env) (ForGoU prog w A h₀ env x body Q) E s) (hs : ∀ x, foldedSetIterable iter env x = pure x := by intro _; rfl) :
    wpAny (model prog w) A (exec (.For (.Name x px) iter body [] pos) env) Q E s :=
  for_ruleU_sb1.2 for_ruleU_e0.all prog w A E s h₀ env x body Q px pos iter m₀ _F₀ hx hp h hs
theorem ForGoU.inv {α σ : Type} {xs : List α} {V : α → Value → Prop} {src : List (Addr × Obj)} {m : Nms} {xv : Value} {s₁ : Shared} (I : Nat → Heap → σ → Prop) (ups : σ → List (Str × Option Value)) (NW : σ → List (Addr × Obj)) (st₀ : σ)
    (hi : IterOf prog w A xv s₁.heap xs V src) (F : Fr h₀ env.locals s₁.heap m) (N : News h₀ env.locals s₁.heap (NW st₀)) (hm : ∀ y, m y = ovr (ups st₀) m y) (h0 : I 0 h₀ st₀)
    (turn : ∀ i a v g st h tk, xs[i]? = some a → V a v → I i g st → Stand src h →
      ∀ (J : Addr) (oJ : Obj) (Q' : Flow → Shared → Prop) (E' : Value → Shared → Prop), Fr g env.locals h (upd x (some v) (ovr (ups st) m)) → News g env.locals h ((J, oJ) :: NW st) → (∀ p ∈ NW st, p.1 ≠ J) →
        (∀ g' st' f m' h' tk', (f = .next ∨ f = .cont) → Fr g' env.locals h' m' → (∀ y, y ≠ x → m' y = ovr (ups st') m y) → News g' env.locals h' ((J, oJ) :: NW st') → (∀ p ∈ NW st', p.1 ≠ J) → Stand src h' → I (i + 1) g' st' → Q' f { s₁ with heap := h', toks := tk' }) →
        (∀ s', Q .next s' → Q' .brk s') → (∀ r s', Q (.ret r) s' → Q' (.ret r) s') →
        wpAny (model prog w) A (execs body env) Q' E' { s₁ with heap := h, toks := tk })
    (done : ∀ g st o h' tk', I xs.length g st → Stand src h' → Fr g env.locals h' (upd x o (ovr (ups st) m)) → News g env.locals h' (NW st) → Q .next { s₁ with heap := h', toks := tk' }) :
    ForGoU prog w A h₀ env x body Q xv s₁ := by
  refine ⟨α, xs, V, src, m, NW st₀, fun i g m' nw => ∃ st o, I i g st ∧ m' = (fun y => if y = x then o else ovr (ups st) m y) ∧ nw = NW st, hi, F, N, ⟨st₀, m x, h0, ?_, rfl⟩, ?_, ?_⟩
  · funext y
    by_cases hy : y = x
    · simp [hy]
    · rw [if_neg hy]; exact hm y
  · rintro i a v g m₁ news₁ h tk ha hV ⟨st, o, hI, rfl, rfl⟩ hS J oJ Q' E' F' N' hne hnext hbrk hret
    have hmm : (fun y => if y = x then some v else if y = x then o else ovr (ups st) m y) = (fun y => if y = x then some v else ovr (ups st) m y) := by
      funext y
      by_cases hy : y = x <;> simp [hy]
    refine turn i a v g st h tk ha hV hI hS J oJ Q' E' (by show Fr g env.locals h (fun y => if y = x then some v else ovr (ups st) m y); rw [← hmm]; exact F') N' hne (fun g' st' f m' h' tk' hf F'' hm'' N'' hn'' S'' I'' => ?_) hbrk hret
    refine hnext f g' m' (NW st') h' tk' hf F'' N'' hn'' S'' ⟨st', m' x, I'', ?_, rfl⟩
    funext y
    by_cases hy : y = x
    · simp [hy]
    · rw [if_neg hy]; exact hm'' y hy
  · rintro g m' news' h' tk' ⟨st, o, hI, rfl, rfl⟩ hS F' N'
    exact done g st o h' tk' hI hS F' N'
end
end Mine
end
section
open PySem PySem.W PyProof.Rows PySem.Calls
namespace Mine
set_option maxRecDepth 100000
set_option maxHeartbeats 4000000
section
variable {prog : Program} {w : World} {A : Around} {E : Value → Shared → Prop} {s : Shared} {h₀ : Heap} {env : Env} {xi xv : Str} {body : List Stmt} {Q : Flow → Shared → Prop} {L : Addr} {m : Nms} {news : List (Addr × Obj)}

noncomputable def EnObj (e it : Addr) (i : Int) (old : Value) : Obj := { cls := .type "enumerate", dict := none, data := .fields #[.none, .bool false, .ref it, rawInt i, .none, old], slots := #[] }

theorem call_enum {l : Addr} {items : Array Value} {n : Nat} {ol : Obj} {Qv : Value → Shared → Prop} (F : Fr h₀ L s.heap m) (N : News h₀ L s.heap news) (hl : s.heap.get? l = some ol) (hc : ol.cls = .type "list") (hd : ol.data = .seq items n)
    (h : ∀ e it h', IsEnum h' e it 0 .none → h'.IsListIter it l 0 → Fr h₀ L h' m → News h₀ L h' news → s.heap.StaysIn h' → s.heap.get? e = none → s.heap.get? it = none → e ≠ it → Qv (.ref e) { s with heap := h' }) :
    wpAny (model prog w) A (call (.type "enumerate") [.ref l]) Qv E s :=
  call_enumerate_list ⟨ol, hl, hc, n, hd⟩ fun h' he hit _ hk => h _ _ h' he hit (F.keeps hk) (fun p hp => ⟨hk _ _ (N p hp).1, (N p hp).2⟩) hk (Heap.get?_none_of_le (Nat.le_succ _)) (Heap.get?_none_of_le (Nat.le_refl _)) (Nat.succ_ne_self _)

/-- one turn of a loop over an enumeration -/
noncomputable def TurnE (prog : Program) (w : World) (A : Around) (h₀ : Heap) (env : Env) (body : List Stmt) (Q : Flow → Shared → Prop) (s₁ : Shared) (src : List (Addr × Obj)) (Jn : Nms → List (Addr × Obj) → Prop)
    (m : Nms) (news : List (Addr × Obj)) (h : Heap) (tk : Nat) : Prop :=
  ∀ (e it : Addr) (oe oi : Obj) (Q' : Flow → Shared → Prop) (E' : Value → Shared → Prop), Fr h₀ env.locals h m → News h₀ env.locals h ((e, oe) :: (it, oi) :: news) → (∀ p ∈ news, p.1 ≠ e ∧ p.1 ≠ it) →
    (∀ f m' news' h' tk', (f = .next ∨ f = .cont) → Fr h₀ env.locals h' m' → News h₀ env.locals h' ((e, oe) :: (it, oi) :: news') → (∀ p ∈ news', p.1 ≠ e ∧ p.1 ≠ it) → Stand src h' → Jn m' news' → Q' f { s₁ with heap := h', toks := tk' }) →
    (∀ s', Q .next s' → Q' .brk s') → (∀ r s', Q (.ret r) s' → Q' (.ret r) s') →
    wpAny (model prog w) A (execs body env) Q' E' { s₁ with heap := h, toks := tk }

noncomputable def EnumGo (prog : Program) (w : World) (A : Around) (h₀ : Heap) (env : Env) (xi xv : Str) (body : List Stmt) (Q : Flow → Shared → Prop) (rv : Value) (s₁ : Shared) : Prop :=
  ∃ (e it l : Addr) (ol : Obj) (items : Array Value) (n : Nat) (m : Nms) (news : List (Addr × Obj)) (J : Nat → Nms → List (Addr × Obj) → Prop),
    rv = .ref e ∧ IsEnum s₁.heap e it 0 .none ∧ s₁.heap.IsListIter it l 0 ∧ s₁.heap.get? l = some ol ∧ ol.cls = .type "list" ∧ ol.data = .seq items n ∧ e ≠ it ∧ l ≠ e ∧ l ≠ it ∧ e ≠ env.locals ∧ it ≠ env.locals ∧ l ≠ env.locals ∧ h₀.get? e = none ∧ h₀.get? it = none ∧
    (∀ p ∈ news, p.1 ≠ e ∧ p.1 ≠ it) ∧ Fr h₀ env.locals s₁.heap m ∧ News h₀ env.locals s₁.heap news ∧ J 0 m news ∧
    (∀ i v u m₁ news₁ h tk, items[i]? = some v → J i m₁ news₁ → Stand [(l, ol)] h → TurnE prog w A h₀ env body Q s₁ [(l, ol)] (J (i + 1)) (upd xv (some v) (upd xi (some (.int (i : Int) u)) m₁)) news₁ h tk) ∧
    (∀ m' news' h' tk', J items.size m' news' → Stand [(l, ol)] h' → Fr h₀ env.locals h' m' → News h₀ env.locals h' news' → Q .next { s₁ with heap := h', toks := tk' })

end
section
noncomputable def for_enum_S : Prop := (∀ (prog : Program) (w : World) (A : Around) (E : Value → Shared → Prop) (s : Shared) (h₀ : Heap) (env : Env) (xi : Str) (xv : Str) (body : List Stmt) (Q : Flow → Shared → Prop) (pi : Pos) (pv : Pos) (pt : Pos) (pos : Pos) (x1 : Nat) (iter : Expr) (m₀ : Nms) (_F₀ : Fr h₀ env.locals s.heap m₀) (hh : A.handled = none) (hxi : env.kindOf xi = some .local) (hxv : env.kindOf xv = some .local) (hp : (env.scope.kind == .class || (env.scope.kind == .module && env.locals != env.globals)) = false) (h : wpAny (model prog w) A (eval iter env) (EnumGo prog w A h₀ env xi xv body Q) E s) (hs : ∀ x, foldedSetIterable iter env x = pure x), wpAny (model prog w) A (exec (.For (.Tuple [.Name xi pi, .Name xv pv] x1 pt) iter body [] pos) env) Q E s)
noncomputable def for_enum_sb1 : { pQ : (Program) → (World) → (Around) → (Value → Shared → Prop) → (Heap) → (Env) → (Str) → (Str) → (List Stmt) → (Flow → Shared → Prop) → (Pos) → (Pos) → (Pos) → (Pos) → (Nat) → (Expr) → (Shared) → (Value) → Prop // (∀ (prog : Program) (w : World) (A : Around) (E : Value → Shared → Prop) (h₀ : Heap) (env : Env) (xi : Str) (xv : Str) (body : List Stmt) (Q : Flow → Shared → Prop) (pi : Pos) (pv : Pos) (pt : Pos) (pos : Pos) (x1 : Nat) (iter : Expr) (s₁ : Shared) (rv : Value), pQ prog w A E h₀ env xi xv body Q pi pv pt pos x1 iter s₁ rv) → for_enum_S } := ⟨_, by
  intro hP_e0
  intro prog w A E s h₀ env xi xv body Q pi pv pt pos x1 iter m₀ _F₀ hh hxi hxv hp h hs
  refine wpAny_For (wpAny_mono h (fun rv s₁ h₁ => ?_) fun _ _ e => e) hs
  revert hh hxi hxv hp h₁; exact hP_e0 prog w A E h₀ env xi xv body Q pi pv pt pos x1 iter s₁ rv⟩
namespace for_enum_e0
noncomputable def c0 : (Program) × (World) × (Around) × (Value → Shared → Prop) × (Heap) × (Env) × (Str) × (Str) × (List Stmt) × (Flow → Shared → Prop) × (Pos) × (Pos) × (Pos) × (Pos) × (Nat) × (Expr) × (Shared) × (Value) × Unit := pick ⟨⟨default, dW, dA, default, default, default, default, default, default, default, default, default, default, default, default, default, dS, default, ()⟩⟩ fun q => for_enum_sb1.1 q.1 q.2.1 q.2.2.1 q.2.2.2.1 q.2.2.2.2.1 q.2.2.2.2.2.1 q.2.2.2.2.2.2.1 q.2.2.2.2.2.2.2.1 q.2.2.2.2.2.2.2.2.1 q.2.2.2.2.2.2.2.2.2.1 q.2.2.2.2.2.2.2.2.2.2.1 q.2.2.2.2.2.2.2.2.2.2.2.1 q.2.2.2.2.2.2.2.2.2.2.2.2.1 q.2.2.2.2.2.2.2.2.2.2.2.2.2.1 q.2.2.2.2.2.2.2.2.2.2.2.2.2.2.1 q.2.2.2.2.2.2.2.2.2.2.2.2.2.2.2.1 q.2.2.2.2.2.2.2.2.2.2.2.2.2.2.2.2.1 q.2.2.2.2.2.2.2.2.2.2.2.2.2.2.2.2.2.1
@[irreducible] noncomputable def prog : Program := c0.1
@[irreducible] noncomputable def w : World := c0.2.1
@[irreducible] noncomputable def A : Around := c0.2.2.1
@[irreducible] noncomputable def E : Value → Shared → Prop := c0.2.2.2.1
@[irreducible] noncomputable def h₀ : Heap := c0.2.2.2.2.1
@[irreducible] noncomputable def env : Env := c0.2.2.2.2.2.1
@[irreducible] noncomputable def xi : Str := c0.2.2.2.2.2.2.1
@[irreducible] noncomputable def xv : Str := c0.2.2.2.2.2.2.2.1
@[irreducible] noncomputable def body : List Stmt := c0.2.2.2.2.2.2.2.2.1
@[irreducible] noncomputable def Q : Flow → Shared → Prop := c0.2.2.2.2.2.2.2.2.2.1
@[irreducible] noncomputable def pi : Pos := c0.2.2.2.2.2.2.2.2.2.2.1
@[irreducible] noncomputable def pv : Pos := c0.2.2.2.2.2.2.2.2.2.2.2.1
@[irreducible] noncomputable def pt : Pos := c0.2.2.2.2.2.2.2.2.2.2.2.2.1
@[irreducible] noncomputable def pos : Pos := c0.2.2.2.2.2.2.2.2.2.2.2.2.2.1
@[irreducible] noncomputable def x1 : Nat := c0.2.2.2.2.2.2.2.2.2.2.2.2.2.2.1
@[irreducible] noncomputable def iter : Expr := c0.2.2.2.2.2.2.2.2.2.2.2.2.2.2.2.1
@[irreducible] noncomputable def s₁ : Shared := c0.2.2.2.2.2.2.2.2.2.2.2.2.2.2.2.2.1
@[irreducible] noncomputable def rv : Value := c0.2.2.2.2.2.2.2.2.2.2.2.2.2.2.2.2.2.1
noncomputable def for_enum_sb2 : { pQ : (Addr) → (Addr) → (Addr) → (Obj) → (Array Value) → (Nat) → (Nms) → (List (Addr × Obj)) → (Nat → Nms → List (Addr × Obj) → Prop) → Prop // (∀ (e : Addr) (it : Addr) (l : Addr) (ol : Obj) (items : Array Value) (n : Nat) (m : Nms) (news : List (Addr × Obj)) (J : Nat → Nms → List (Addr × Obj) → Prop), pQ e it l ol items n m news J) → for_enum_sb1.1 prog w A E h₀ env xi xv body Q pi pv pt pos x1 iter s₁ rv } := ⟨_, by
  intro hP_en
  intro hh hxi hxv hp h₁
  obtain ⟨e, it, l, ol, items, n, m, news, J, hrv, he, hit, hl, hlc, hld, hei, hle, hli, heL, hiL, hlL, he₀, hi₀, hof, F, N, hj, turn, done⟩ := h₁
  rw [hrv]
  refine wpAny_pyIter_enum he ?_
  have hE' : ∀ e s', NoE e s' → notedBy (model prog w) A env (fun e s' => cameBackBy (model prog w) A env E e s') e s' := fun _ _ z => z.elim
  revert hh hxi hxv hp he hit hl hlc hld hei hle hli heL hiL hlL he₀ hi₀ hof F N hj turn done hE'; exact hP_en e it l ol items n m news J⟩
namespace en
noncomputable def c0 : (Addr) × (Addr) × (Addr) × (Obj) × (Array Value) × (Nat) × (Nms) × (List (Addr × Obj)) × (Nat → Nms → List (Addr × Obj) → Prop) × Unit := pick ⟨⟨default, default, default, default, default, default, default, default, default, ()⟩⟩ fun q => for_enum_sb2.1 q.1 q.2.1 q.2.2.1 q.2.2.2.1 q.2.2.2.2.1 q.2.2.2.2.2.1 q.2.2.2.2.2.2.1 q.2.2.2.2.2.2.2.1 q.2.2.2.2.2.2.2.2.1
@[irreducible] noncomputable def e : Addr := c0.1
@[irreducible] noncomputable def it : Addr := c0.2.1
@[irreducible] noncomputable def l : Addr := c0.2.2.1
@[irreducible] noncomputable def ol : Obj := c0.2.2.2.1
@[irreducible] noncomputable def items : Array Value := c0.2.2.2.2.1
@[irreducible] noncomputable def n : Nat := c0.2.2.2.2.2.1
@[irreducible] noncomputable def m : Nms := c0.2.2.2.2.2.2.1
@[irreducible] noncomputable def news : List (Addr × Obj) := c0.2.2.2.2.2.2.2.1
@[irreducible] noncomputable def J : Nat → Nms → List (Addr × Obj) → Prop := c0.2.2.2.2.2.2.2.2.1
noncomputable def for_enum_sb3 : { pQ : (Heap) → (Nat) → (Nms) → (List (Addr × Obj)) → (Nat) → (Value) → Prop // (∀ (H : Heap) (tk : Nat) (m' : Nms) (news' : List (Addr × Obj)) (i : Nat) (old : Value), pQ H tk m' news' i old) → for_enum_sb2.1 e it l ol items n m news J } := ⟨_, by
  intro hP_go
  intro hh hxi hxv hp he hit hl hlc hld hei hle hli heL hiL hlL he₀ hi₀ hof F N hj turn done hE'
  refine codeAny_forLoop_any (R := fun r s' => match r with | .ok f => Q f s' | .error e => cameBackBy (model prog w) A env E e s')
    (fun k s' => ∃ h' tk m' news' i old, s' = { s₁ with heap := h', toks := tk } ∧ IsEnum h' e it ((i : Nat) : Int) old ∧ h'.IsListIter it l i ∧ Stand [(l, ol)] h' ∧ Fr h₀ env.locals h' m' ∧ News h₀ env.locals h' news' ∧ (∀ p ∈ news', p.1 ≠ e ∧ p.1 ≠ it) ∧ J i m' news' ∧ i ≤ items.size ∧ k = items.size + 1 - i) ?_ (items.size + 1)
    ⟨s₁.heap, s₁.toks, m, news, 0, .none, rfl, he, hit, (fun p hp => by rw [List.mem_singleton.mp hp]; exact hl), F, N, hof, hj, Nat.zero_le _, rfl⟩
  rintro k s' ⟨H, tk, m', news', i, old, rfl, he', hit', hS', F', N', hof', hJ, hi, rfl⟩
  revert hh hxi hxv hp hlc hld hei hle hli heL hiL hlL he₀ hi₀ turn done hE' he' hit' hS' F' N' hof' hJ hi; exact hP_go H tk m' news' i old⟩
namespace go
noncomputable def c0 : (Heap) × (Nat) × (Nms) × (List (Addr × Obj)) × (Nat) × (Value) × Unit := pick ⟨⟨default, default, default, default, default, default, ()⟩⟩ fun q => for_enum_sb3.1 q.1 q.2.1 q.2.2.1 q.2.2.2.1 q.2.2.2.2.1 q.2.2.2.2.2.1
@[irreducible] noncomputable def H : Heap := c0.1
@[irreducible] noncomputable def tk : Nat := c0.2.1
@[irreducible] noncomputable def m' : Nms := c0.2.2.1
@[irreducible] noncomputable def news' : List (Addr × Obj) := c0.2.2.2.1
@[irreducible] noncomputable def i : Nat := c0.2.2.2.2.1
@[irreducible] noncomputable def old : Value := c0.2.2.2.2.2.1
theorem main : for_enum_sb3.1 H tk m' news' i old := by
  intro hh hxi hxv hp hlc hld hei hle hli heL hiL hlL he₀ hi₀ turn done hE' he' hit' hS' F' N' hof' hJ hi
  have hl' : H.IsList l items := ⟨ol, hS' (l, ol) (.head _), hlc, n, hld⟩
  have frm : ∀ {h₁ : Heap}, (∀ b o, b ≠ e → b ≠ it → H.get? b = some o → h₁.get? b = some o) → Fr h₀ env.locals h₁ m' ∧ News h₀ env.locals h₁ news' ∧ Stand [(l, ol)] h₁ := fun {h₁} hk => by
    refine ⟨⟨?_, fun b o eb => hk b o (fun q => ?_) (fun q => ?_) (F'.keep b o eb), F'.above⟩, fun p hp => ⟨hk _ _ (hof' p hp).1 (hof' p hp).2 (N' p hp).1, (N' p hp).2⟩, fun p hp => ?_⟩
    · obtain ⟨oL, es, ep, hL, r⟩ := F'.ns
      exact ⟨oL, es, ep, hk _ _ (Ne.symm heL) (Ne.symm hiL) hL, r⟩
    · rw [q, he₀] at eb; cases eb
    · rw [q, hi₀] at eb; cases eb
    · have z := hS' p hp
      rw [List.mem_singleton.mp hp] at z ⊢
      exact hk _ _ hle hli z
  cases hv : items[i]? with
  | none =>
    have hsz : i = items.size := Nat.le_antisymm hi (by simpa using hv)
    refine wpAny_pyNext_enum_end hh he' hit' hl' hv fun h₁ he₁ => wpAny_execs_nil ?_
    obtain ⟨F₁, N₁, S₁⟩ := frm (h₁ := h₁) fun b o _ hbi x => he₁ b o hbi x
    exact done m' news' h₁ tk (hsz ▸ hJ) S₁ F₁ N₁
  | some v =>
    have hlt : i < items.size := (Array.getElem?_eq_some_iff.mp hv).1
    have heH : e < H.objs.size := Heap.lt_size he'
    obtain ⟨oi, hoi, hoir⟩ := id hit'
    have hiH : it < H.objs.size := Heap.lt_size hoi
    refine wpAny_pyNext_enum_item he' hit' hl' hv hei fun h₁ heo hit₁ ht₁ hz₁ hk₁ => ?_
    refine wpAny_letOwnedTupleGo_enum heo fun h₂ he₂ hs₂ => ?_
    replace hs₂ : Heap.SameBut e h₁ h₂ := hs₂
    have ht₂ : h₂.IsTuple H.objs.size #[.int i tk, v] := ⟨_, (hs₂.2 _ (Nat.ne_of_gt heH)).trans ht₁, rfl, _, rfl⟩
    have hz₂ : h₂.objs.size = H.objs.size + 1 := hs₂.1.trans hz₁
    refine wpAny_assign_Tuple hh ht₂ rfl rfl fun h₃ hx₃ => ?_
    replace hx₃ : Heap.ExtBut h₂.objs.size h₂ h₃ := hx₃
    have old₃ : ∀ b o, b < H.objs.size → h₂.get? b = some o → h₃.get? b = some o := fun b o hb x => hx₃ b o (by rw [hz₂]; exact Nat.ne_of_lt (Nat.lt_succ_of_lt hb)) x
    obtain ⟨F₃, N₃, S₃⟩ := frm (h₁ := h₃) fun b o hbe hbi x => old₃ b o (Heap.lt_size x) ((hs₂.2 b hbe).trans (hk₁ b o hbe hbi x))
    have he₃ : IsEnum h₃ e it ((i : Int) + 1) v := old₃ _ _ heH he₂
    have hit₃ : h₃.IsListIter it l (i + 1) := by
      obtain ⟨o₁, ho₁, r⟩ := hit₁
      exact ⟨o₁, old₃ _ _ hiH ((hs₂.2 it (Ne.symm hei)).trans ho₁), r⟩
    show wpAny _ A (do holding [v] (assign (.Name xi pi) env (.int i tk)); do holding [] (assign (.Name xv pv) env v); pure ()) _ _ _
    refine wpAny_bind (wpAny_holding (wpAny_assign_Name (wpAny_storeName_local hxi F₃.ns (fun h₄ hn₄ hs₄ => ?_) hp)))
    replace hs₄ : Heap.SameBut env.locals h₃ h₄ := hs₄
    refine wpAny_bind (wpAny_holding (wpAny_assign_Name (wpAny_storeName_local hxv hn₄ (fun h₅ hn₅ hs₅ => wpAny_pure ?_) hp)))
    replace hs₅ : Heap.SameBut env.locals h₄ h₅ := hs₅
    have F₅ := (F₃.set hn₄ hs₄).set hn₅ hs₅
    have N₅ := (N₃.set hs₄).set hs₅
    have S₅ : Stand [(l, ol)] h₅ := fun p hp => by
      have z := S₃ p hp
      rw [List.mem_singleton.mp hp] at z ⊢
      exact (hs₅.2 _ hlL).trans ((hs₄.2 _ hlL).trans z)
    have he₅ : IsEnum h₅ e it ((i : Int) + 1) v := (hs₅.2 e heL).trans ((hs₄.2 e heL).trans he₃)
    obtain ⟨oi₃, hoi₃, hor₃⟩ := hit₃
    have hoi₅ : h₅.get? it = some oi₃ := (hs₅.2 it hiL).trans ((hs₄.2 it hiL).trans hoi₃)
    let T : Shared → Prop := fun s₃ => ∃ k', k' < items.size + 1 - i ∧ ∃ h' tk m' news' i old, s₃ = { s₁ with heap := h', toks := tk } ∧ IsEnum h' e it ((i : Nat) : Int) old ∧ h'.IsListIter it l i ∧ Stand [(l, ol)] h' ∧ Fr h₀ env.locals h' m' ∧ News h₀ env.locals h' news' ∧ (∀ p ∈ news', p.1 ≠ e ∧ p.1 ≠ it) ∧ J i m' news' ∧ i ≤ items.size ∧ k' = items.size + 1 - i
    refine wpAny_mono (turn i v tk m' news' h₅ _ hv hJ S₅ e it (EnObj e it ((i : Int) + 1) v) oi₃ (fun f s₃ => match f with
      | .next => T s₃
      | .cont => T s₃
      | .brk => Q .next s₃
      | .ret v => Q (.ret v) s₃) NoE F₅ (fun p hp => ?_) hof' (fun f m₆ news₆ h₆ tk₆ hf₆ F₆ N₆ hn₆ S₆ J₆ => ?_) (fun _ q => q) (fun _ _ q => q)) (fun f s₃ q => ?_) hE'
    · rcases List.mem_cons.mp hp with rfl | hp
      · exact ⟨he₅, heL, he₀⟩
      · rcases List.mem_cons.mp hp with rfl | hp
        · exact ⟨hoi₅, hiL, hi₀⟩
        · exact N₅ p hp
    · have : T { s₁ with heap := h₆, toks := tk₆ } :=
        ⟨items.size + 1 - (i + 1), by omega, h₆, tk₆, m₆, news₆, i + 1, v, rfl, (N₆ (e, _) List.mem_cons_self).1, ⟨oi₃, (N₆ (it, oi₃) (List.mem_cons_of_mem _ List.mem_cons_self)).1, hor₃⟩, S₆, F₆, fun p hp => N₆ p (List.mem_cons_of_mem _ (List.mem_cons_of_mem _ hp)), hn₆, J₆, hlt, rfl⟩
      rcases hf₆ with rfl | rfl <;> exact this
    · cases f <;> exact q
theorem all : ∀ a0 a1 a2 a3 a4 a5, for_enum_sb3.1 a0 a1 a2 a3 a4 a5 := by
  have q1 : (fun q : (Heap) × (Nat) × (Nms) × (List (Addr × Obj)) × (Nat) × (Value) × Unit => for_enum_sb3.1 q.1 q.2.1 q.2.2.1 q.2.2.2.1 q.2.2.2.2.1 q.2.2.2.2.2.1) (pick ⟨⟨default, default, default, default, default, default, ()⟩⟩ fun q => for_enum_sb3.1 q.1 q.2.1 q.2.2.1 q.2.2.2.1 q.2.2.2.2.1 q.2.2.2.2.2.1) := by with_unfolding_all exact main
  exact fun a0 a1 a2 a3 a4 a5 => pick_spec (P := fun q : (Heap) × (Nat) × (Nms) × (List (Addr × Obj)) × (Nat) × (Value) × Unit => for_enum_sb3.1 q.1 q.2.1 q.2.2.1 q.2.2.2.1 q.2.2.2.2.1 q.2.2.2.2.2.1) (ne := ⟨⟨default, default, default, default, default, default, ()⟩⟩) q1 ⟨a0, a1, a2, a3, a4, a5, ()⟩
end go
theorem main : for_enum_sb2.1 e it l ol items n m news J := for_enum_sb3.2 go.all
theorem all : ∀ a0 a1 a2 a3 a4 a5 a6 a7 a8, for_enum_sb2.1 a0 a1 a2 a3 a4 a5 a6 a7 a8 := by
  have q1 : (fun q : (Addr) × (Addr) × (Addr) × (Obj) × (Array Value) × (Nat) × (Nms) × (List (Addr × Obj)) × (Nat → Nms → List (Addr × Obj) → Prop) × Unit => for_enum_sb2.1 q.1 q.2.1 q.2.2.1 q.2.2.2.1 q.2.2.2.2.1 q.2.2.2.2.2.1 q.2.2.2.2.2.2.1 q.2.2.2.2.2.2.2.1 q.2.2.2.2.2.2.2.2.1) (pick ⟨⟨default, default, default, default, default, default, default, default, default, ()⟩⟩ fun q => for_enum_sb2.1 q.1 q.2.1 q.2.2.1 q.2.2.2.1 q.2.2.2.2.1 q.2.2.2.2.2.1 q.2.2.2.2.2.2.1 q.2.2.2.2.2.2.2.1 q.2.2.2.2.2.2.2.2.1) := by with_unfolding_all exact main
  exact fun a0 a1 a2 a3 a4 a5 a6 a7 a8 => pick_spec (P := fun q : (Addr) × (Addr) × (Addr) × (Obj) × (Array Value) × (Nat) × (Nms) × (List (Addr × Obj)) × (Nat → Nms → List (Addr × Obj) → Prop) × Unit => for_enum_sb2.1 q.1 q.2.1 q.2.2.1 q.2.2.2.1 q.2.2.2.2.1 q.2.2.2.2.2.1 q.2.2.2.2.2.2.1 q.2.2.2.2.2.2.2.1 q.2.2.2.2.2.2.2.2.1) (ne := ⟨⟨default, default, default, default, default, default, default, default, default, ()⟩⟩) q1 ⟨a0, a1, a2, a3, a4, a5, a6, a7, a8, ()⟩
end en
theorem main : for_enum_sb1.1 prog w A E h₀ env xi xv body Q pi pv pt pos x1 iter s₁ rv := for_enum_sb2.2 en.all
theorem all : ∀ a0 a1 a2 a3 a4 a5 a6 a7 a8 a9 a10 a11 a12 a13 a14 a15 a16 a17, for_enum_sb1.1 a0 a1 a2 a3 a4 a5 a6 a7 a8 a9 a10 a11 a12 a13 a14 a15 a16 a17 := by
  have q1 : (fun q : (Program) × (World) × (Around) × (Value → Shared → Prop) × (Heap) × (Env) × (Str) × (Str) × (List Stmt) × (Flow → Shared → Prop) × (Pos) × (Pos) × (Pos) × (Pos) × (Nat) × (Expr) × (Shared) × (Value) × Unit => for_enum_sb1.1 q.1 q.2.1 q.2.2.1 q.2.2.2.1 q.2.2.2.2.1 q.2.2.2.2.2.1 q.2.2.2.2.2.2.1 q.2.2.2.2.2.2.2.1 q.2.2.2.2.2.2.2.2.1 q.2.2.2.2.2.2.2.2.2.1 q.2.2.2.2.2.2.2.2.2.2.1 q.2.2.2.2.2.2.2.2.2.2.2.1 q.2.2.2.2.2.2.2.2.2.2.2.2.1 q.2.2.2.2.2.2.2.2.2.2.2.2.2.1 q.2.2.2.2.2.2.2.2.2.2.2.2.2.2.1 q.2.2.2.2.2.2.2.2.2.2.2.2.2.2.2.1 q.2.2.2.2.2.2.2.2.2.2.2.2.2.2.2.2.1 q.2.2.2.2.2.2.2.2.2.2.2.2.2.2.2.2.2.1) (pick ⟨⟨default, dW, dA, default, default, default, default, default, default, default, default, default, default, default, default, default, dS, default, ()⟩⟩ fun q => for_enum_sb1.1 q.1 q.2.1 q.2.2.1 q.2.2.2.1 q.2.2.2.2.1 q.2.2.2.2.2.1 q.2.2.2.2.2.2.1 q.2.2.2.2.2.2.2.1 q.2.2.2.2.2.2.2.2.1 q.2.2.2.2.2.2.2.2.2.1 q.2.2.2.2.2.2.2.2.2.2.1 q.2.2.2.2.2.2.2.2.2.2.2.1 q.2.2.2.2.2.2.2.2.2.2.2.2.1 q.2.2.2.2.2.2.2.2.2.2.2.2.2.1 q.2.2.2.2.2.2.2.2.2.2.2.2.2.2.1 q.2.2.2.2.2.2.2.2.2.2.2.2.2.2.2.1 q.2.2.2.2.2.2.2.2.2.2.2.2.2.2.2.2.1 q.2.2.2.2.2.2.2.2.2.2.2.2.2.2.2.2.2.1) := by with_unfolding_all exact main
  exact fun a0 a1 a2 a3 a4 a5 a6 a7 a8 a9 a10 a11 a12 a13 a14 a15 a16 a17 => pick_spec (P := fun q : (Program) × (World) × (Around) × (Value → Shared → Prop) × (Heap) × (Env) × (Str) × (Str) × (List Stmt) × (Flow → Shared → Prop) × (Pos) × (Pos) × (Pos) × (Pos) × (Nat) × (Expr) × (Shared) × (Value) × Unit => for_enum_sb1.1 q.1 q.2.1 q.2.2.1 q.2.2.2.1 q.2.2.2.2.1 q.2.2.2.2.2.1 q.2.2.2.2.2.2.1 q.2.2.2.2.2.2.2.1 q.2.2.2.2.2.2.2.2.1 q.2.2.2.2.2.2.2.2.2.1 q.2.2.2.2.2.2.2.2.2.2.1 q.2.2.2.2.2.2.2.2.2.2.2.1 q.2.2.2.2.2.2.2.2.2.2.2.2.1 q.2.2.2.2.2.2.2.2.2.2.2.2.2.1 q.2.2.2.2.2.2.2.2.2.2.2.2.2.2.1 q.2.2.2.2.2.2.2.2.2.2.2.2.2.2.2.1 q.2.2.2.2.2.2.2.2.2.2.2.2.2.2.2.2.1 q.2.2.2.2.2.2.2.2.2.2.2.2.2.2.2.2.2.1) (ne := ⟨⟨default, dW, dA, default, default, default, default, default, default, default, default, default, default, default, default, default, dS, default, ()⟩⟩) q1 ⟨a0, a1, a2, a3, a4, a5, a6, a7, a8, a9, a10, a11, a12, a13, a14, a15, a16, a17, ()⟩
end for_enum_e0
end
section
variable {prog : Program} {w : World} {A : Around} {E : Value → Shared → Prop} {s : Shared} {h₀ : Heap} {env : Env} {xi xv : Str} {body : List Stmt} {Q : Flow → Shared → Prop} {L : Addr} {m : Nms} {news : List (Addr × Obj)}
theorem for_enum {pi pv pt pos : Pos} {x1 : Nat} {iter : Expr} {m₀ : Nms} (_F₀ : Fr h₀ env.locals s.heap m₀) (hh : A.handled = none) (hxi : env.kindOf xi = some .local) (hxv : env.kindOf xv = some .local)
    (hp : (env.scope.kind == .class || (env.scope.kind == .module && env.locals != env.globals)) = false)
    (h : wpAny (model prog w) A (eval iter env) (EnumGo prog w A h₀ env xi xv body Q) E s) (hs : ∀ x, foldedSetIterable iter env x = pure x := by intro _; rfl) :
    wpAny (model prog w) A (exec (.For (.Tuple [.Name xi pi, .Name xv pv] x1 pt) iter body [] pos) env) Q E s :=
  for_enum_sb1.2 for_enum_e0.all prog w A E s h₀ env xi xv body Q pi pv pt pos x1 iter m₀ _F₀ hh hxi hxv hp h hs
end
end Mine
end
section
open PySem PySem.W PyProof.Rows PySem.Calls
open Builtin
namespace Mine
set_option maxRecDepth 100000
set_option maxHeartbeats 4000000

/-- a slice of a list of octets -/
noncomputable def cutL {α : Type} (l : List α) (lo hi : Option Int) : List α := (l.drop (lo.elim 0 (clipAt l.length))).take (hi.elim l.length (clipAt l.length) - lo.elim 0 (clipAt l.length))
theorem cutL_le {α : Type} (l : List α) (lo hi : Option Int) : (cutL l lo hi).length ≤ l.length := by
  unfold cutL
  rw [List.length_take, List.length_drop]; omega
theorem cutL_nat {α : Type} (l : List α) (a b : Nat) : cutL l (some (a : Int)) (some (b : Int)) = (l.drop a).take (b - a) := by
  have ha := clipAt_cast l.length (a : Int)
  have hb := clipAt_cast l.length (b : Int)
  unfold cutL
  simp only [Option.elim]
  have ea : clipAt l.length (a : Int) = min a l.length := by
    rw [if_neg (by omega)] at ha; omega
  have eb : clipAt l.length (b : Int) = min b l.length := by
    rw [if_neg (by omega)] at hb; omega
  rw [ea, eb]
  by_cases h : a ≤ l.length
  · rw [Nat.min_eq_left h]
    by_cases h2 : b ≤ l.length
    · rw [Nat.min_eq_left h2]
    · rw [Nat.min_eq_right (by omega : l.length ≤ b), List.take_of_length_le (by simp), List.take_of_length_le (by clear ha hb ea eb; simp; omega)]
  · rw [Nat.min_eq_right (by omega : l.length ≤ a), List.drop_of_length_le (Nat.le_refl _), List.drop_of_length_le (by omega : l.length ≤ a)]; simp
theorem cutL_from {α : Type} (l : List α) (a : Nat) : cutL l (some (a : Int)) none = l.drop a := by
  have ha := clipAt_cast l.length (a : Int)
  unfold cutL
  simp only [Option.elim]
  have ea : clipAt l.length (a : Int) = min a l.length := by
    rw [if_neg (by omega)] at ha; omega
  rw [ea]
  by_cases h : a ≤ l.length
  · rw [Nat.min_eq_left h, List.take_of_length_le (by simp)]
  · rw [Nat.min_eq_right (by omega : l.length ≤ a), List.drop_of_length_le (Nat.le_refl _), List.drop_of_length_le (by omega : l.length ≤ a)]; simp
theorem cutL_to {α : Type} (l : List α) (b : Nat) : cutL l none (some (b : Int)) = l.take b := by
  have hb := clipAt_cast l.length (b : Int)
  unfold cutL
  simp only [Option.elim]
  have eb : clipAt l.length (b : Int) = min b l.length := by
    rw [if_neg (by omega)] at hb; omega
  rw [eb]
  by_cases h2 : b ≤ l.length
  · rw [Nat.min_eq_left h2]; simp
  · rw [Nat.min_eq_right (by omega : l.length ≤ b)]; simp only [List.drop_zero, Nat.sub_zero]; rw [List.take_of_length_le (Nat.le_refl _), List.take_of_length_le (by omega : l.length ≤ b)]
theorem cutL_last {α : Type} (l : List α) : cutL l (some (-1)) none = l.drop (l.length - 1) := by
  have ha := clipAt_cast l.length (-1)
  unfold cutL
  simp only [Option.elim]
  have ea : clipAt l.length (-1) = l.length - 1 := by
    rw [if_pos (by omega)] at ha; omega
  rw [ea, List.take_of_length_le (by simp)]
theorem cutL_init {α : Type} (l : List α) : cutL l none (some (-1)) = l.take (l.length - 1) := by
  have ha := clipAt_cast l.length (-1)
  unfold cutL
  simp only [Option.elim]
  have ea : clipAt l.length (-1) = l.length - 1 := by
    rw [if_pos (by omega)] at ha; omega
  rw [ea]; simp
theorem picked_cut (l : List UInt8) (lo hi : Option Int) : KBy.picked l.toArray lo hi = (cutL l lo hi).toArray := by
  rw [KBc.picked_eq]
  simp [cutL]

section
variable {prog : Program} {w : World} {A : Around} {E : Value → Shared → Prop} {s : Shared} {value slice : PySem.Expr} {b c : List UInt8} {t : Tok} {h₀ : Heap} {L : Addr} {m : PySem.Str → Option Value} {news : List (Addr × Obj)} {l u : Value} {lo hi : Option Int} {Q : Value → Shared → Prop}
theorem slice_L (hF : Fr h₀ L s.heap m) (hN : News h₀ L s.heap news) (hl : IsPart l lo) (hu : IsPart u hi) (hz : b.length ≤ 16777216)
    (h : ∀ h' t' k, Fr h₀ L h' m → News h₀ L h' news → (cutL b lo hi).length ≤ b.length → Q (.bytes (cutL b lo hi).toArray t') { s with heap := h', toks := k })
    (hs : subscripted slice false (.bytes b.toArray t) (.ref s.heap.objs.size) = operate [.ref s.heap.objs.size, .bytes b.toArray t] (getItem (.bytes b.toArray t) (.ref s.heap.objs.size)) := by with_unfolding_all rfl)
    (ht : ∀ r, letTemporaryGo value (.bytes b.toArray t) r = pure () := by intro _; with_unfolding_all rfl) :
    wpAny (model prog w) A (subscriptTail value slice (.bytes b.toArray t) (.ref s.heap.objs.size)) Q E { s with heap := s.heap.push { cls := .type "slice", data := .fields #[l, u, .none] } } :=
  KBc.slice_K hF hN rfl hl hu (by simpa [KBw.bInts] using hz) (fun h' t' k F' N' _ => by rw [picked_cut]; exact h h' t' k F' N' (cutL_le _ _ _)) hs ht
theorem add_L {u : Tok} (hsz : b.length + c.length ≤ 16777216) (h : ∀ t' k, Q (.bytes (b ++ c).toArray t') { s with toks := k }) : wpAny (model prog w) A (binaryOp .Add (.bytes b.toArray t) (.bytes c.toArray u)) Q E s :=
  KBy.add_bytes (by simpa using hsz) fun t' k => by
    have := h t' k
    rwa [← List.append_toArray] at this
theorem len_L (hfit : b.length ≤ 1099511627776) (h : ∀ t' k, Q (.int (b.length : Int) t') { s with toks := k }) : wpAny (model prog w) A (call (.builtin "len") [.bytes b.toArray t]) Q E s := by
  refine len_bytes (by simpa using hfit) ?_
  have := h (s.toks + 1) (s.toks + 1 + 1)
  simpa using this
theorem eq_L {u : Tok} (h : Q (.bool (b == c)) s) : wpAny (model prog w) A (compareOp .Eq (.bytes b.toArray t) (.bytes c.toArray u)) Q E s := eq_bytes (by simpa using h)
theorem ne_L {u : Tok} (h : Q (.bool (b != c)) s) : wpAny (model prog w) A (compareOp .NotEq (.bytes b.toArray t) (.bytes c.toArray u)) Q E s := ne_bytes (by simpa using h)
end

/-- octets as a list of ints -/
noncomputable abbrev OctV (c : UInt8) (v : Value) : Prop := ∃ u, v = .int (c.toNat : Int) u
noncomputable abbrev BytV (l : List UInt8) (v : Value) : Prop := ∃ u, v = .bytes l.toArray u
theorem intsAre_of : ∀ {l : List UInt8} {vs : List Value}, Rel2 OctV l vs → IntsAre vs (l.map fun c => (c.toNat : Int))
  | [], [], _ => by exact .nil
  | c :: l, v :: vs, h => by
    obtain ⟨u, rfl⟩ := h.1
    exact .cons _ _ (intsAre_of h.2)
section
variable {prog : Program} {w : World} {A : Around} {E : Value → Shared → Prop} {s : Shared} {h₀ : Heap} {L D : Addr} {m : PySem.Str → Option Value} {news : List (Addr × Obj)} {vs : List Value} {l : List UInt8} {Q : Value → Shared → Prop}
theorem bytes_of_list (F : Fr h₀ L s.heap m) (N : News h₀ L s.heap news) (hh : A.handled = none) (hl : s.heap.IsList D vs.toArray) (hi : Rel2 OctV l vs) (hn : l.length ≤ 16777216)
    (h : ∀ h' t' k, Fr h₀ L h' m → News h₀ L h' news → Q (.bytes l.toArray t') { s with heap := h', toks := k }) : wpAny (model prog w) A (call (.type "bytes") [.ref D]) Q E s := by
  refine KBa.make_K F N hh hl (intsAre_of hi) ?_ (by simpa using hn) fun h' t' k F' N' _ => ?_
  · intro n hn
    obtain ⟨c, _, rfl⟩ := List.mem_map.mp hn
    have := c.toNat_lt
    omega
  · have : byteArr (l.map fun c => (c.toNat : Int)) = l.toArray := by
      unfold byteArr
      rw [List.map_map]
      congr 1
      exact List.map_id'' (fun c => by simp) l
    rw [this]
    exact h h' t' k F' N'
end
end Mine
end
section
open PySem PySem.W PyProof.Rows PySem.Calls
open Builtin
namespace Mine
set_option maxRecDepth 100000
set_option maxHeartbeats 4000000
namespace FX
theorem slot_find : Slot "bytes" "find" "bytes.find" :=
  .of (owner := "bytes") (n := "find") (by rw [typeLookup_type, builtinLookup_eq_fast]; kernel_rfl) (by decide +kernel) (by decide +kernel) (by decide +kernel)
    (by first | exact .inl (by decide +kernel) | exact .inr (by decide +kernel)) (by rw [isSubtype_type]; kernel_rfl)
theorem entry_find : entryFor table "bytes.find" = some Builtin.«bytes.find» := entryFor_of_tree (by kernel_rfl)
theorem args_find (a b : Value) : argsOk "bytes.find" ⟨[a, b], []⟩ := by
  unfold argsOk; rw [signature?_of (id := "bytes.find") (n := ['d', 'n', 'i', 'f']) (o := ['s', 'e', 't', 'y', 'b']) (by kernel_rfl) FB.owner_bytes]; kernel_rfl
theorem slot_index : Slot "bytes" "index" "bytes.index" :=
  .of (owner := "bytes") (n := "index") (by rw [typeLookup_type, builtinLookup_eq_fast]; kernel_rfl) (by decide +kernel) (by decide +kernel) (by decide +kernel)
    (by first | exact .inl (by decide +kernel) | exact .inr (by decide +kernel)) (by rw [isSubtype_type]; kernel_rfl)
theorem entry_index : entryFor table "bytes.index" = some Builtin.«bytes.index» := entryFor_of_tree (by kernel_rfl)
theorem args_index (a b : Value) : argsOk "bytes.index" ⟨[a, b], []⟩ := by
  unfold argsOk; rw [signature?_of (id := "bytes.index") (n := ['x', 'e', 'd', 'n', 'i']) (o := ['s', 'e', 't', 'y', 'b']) (by kernel_rfl) FB.owner_bytes]; kernel_rfl
theorem slot_join : Slot "bytes" "join" "bytes.join" :=
  .of (owner := "bytes") (n := "join") (by rw [typeLookup_type, builtinLookup_eq_fast]; kernel_rfl) (by decide +kernel) (by decide +kernel) (by decide +kernel)
    (by first | exact .inl (by decide +kernel) | exact .inr (by decide +kernel)) (by rw [isSubtype_type]; kernel_rfl)
theorem entry_join : entryFor table "bytes.join" = some Builtin.«bytes.join» := entryFor_of_tree (by kernel_rfl)
theorem args_join (a b : Value) : argsOk "bytes.join" ⟨[a, b], []⟩ := by
  unfold argsOk; rw [signature?_of (id := "bytes.join") (n := ['n', 'i', 'o', 'j']) (o := ['s', 'e', 't', 'y', 'b']) (by kernel_rfl) FB.owner_bytes]; kernel_rfl
end FX

theorem find1 (l : List UInt8) (c : UInt8) : Bytes.find? l.toArray #[c] 0 l.length = l.findIdx? (· == c) := by
  unfold Bytes.find?
  simp only [Nat.zero_add, List.size_toArray, List.length_cons, List.length_nil, Nat.add_sub_cancel, Nat.add_zero, List.map_id']
  have key : ∀ (k : Nat) (r : List UInt8), l.drop k = r → ((List.range' k r.length).find? fun i => l.toArray.extract i (i + 1) == #[c]) = (r.findIdx? (· == c)).map (· + k) := by
    intro k r
    induction r generalizing k with
    | nil => intro _; rfl
    | cons x r ih =>
      intro h
      have hx : l.toArray.extract k (k + 1) = #[x] := by
        simp [List.extract_eq_take_drop, h]
      rw [List.length_cons, List.range'_succ, List.find?_cons, hx, List.findIdx?_cons]
      by_cases hc : x = c
      · subst hc; simp
      · have h1 : ((#[x] : Array UInt8) == #[c]) = false := by simpa using hc
        have h2 : (x == c) = false := by simpa using hc
        rw [h1, h2, ih (k + 1) (by rw [← List.drop_drop, h]; rfl)]
        simp only [Bool.false_eq_true, if_false, Option.map_map]
        congr 1
        funext i
        simp; omega
  have := key 0 l rfl
  rw [List.range_eq_range', this]
  simp
section
variable {prog : Program} {w : World} {A : Around} {E : Value → Shared → Prop} {s : Shared} {b : List UInt8} {c : UInt8} {t u : Tok} {Q : Value → Shared → Prop}
theorem gives_find : Gives («bytes.find» ⟨[.bytes b.toArray t, .bytes #[c] u], []⟩) (.int (match b.findIdx? (· == c) with | some i => (i : Int) | none => -1)) := by
  refine .of_wp fun M A E s Q hq => ?_
  show wpAny M A (Bytes.searchM .bytes "find" false false _) _ E s
  unfold Bytes.searchM Bytes.searchArgs
  show wpAny M A ((Bytes.buffer? "bytes.find" (.bytes #[c] u) >>= fun r => _) >>= fun r => _) _ E s
  refine wpAny_bind (wpAny_bind (wpAny_of_eq KBy.buffer_eq ?_))
  refine wpAny_bind (wpAny_pure ?_)
  refine wpAny_bind (m := Bytes.payload (.bytes b.toArray t)) (wpAny_of_eq (a := b.toArray) rfl ?_)
  have hw : Bytes.window b.toArray.size none none = (0, (b.length : Int)) := by
    simp only [Bytes.window, Option.getD_none, List.size_toArray]
    rw [if_neg (by omega), if_neg (by omega), Int.min_self]
  rw [hw]
  refine wpAny_pure ?_
  have hm : ((if (b.length : Int) - 0 < ((#[c] : Array UInt8).size : Int) then none else some ((0 : Int).toNat, (b.length : Int).toNat)).bind fun (lo, hi) => if false = true then Bytes.rfind? b.toArray #[c] lo hi else Bytes.find? b.toArray #[c] lo hi) = b.findIdx? (· == c) := by
    cases b with
    | nil => rfl
    | cons x b =>
      rw [if_neg (by simp; omega)]
      exact find1 _ _
  show wpAny M A (match ((if (b.length : Int) - 0 < ((#[c] : Array UInt8).size : Int) then none else some ((0 : Int).toNat, (b.length : Int).toNat)).bind fun (lo, hi) => if false = true then Bytes.rfind? b.toArray #[c] lo hi else Bytes.find? b.toArray #[c] lo hi) with | some i => retInt i | none => _) _ E s
  rw [hm]
  revert hq
  cases b.findIdx? (· == c) with
  | none => intro hq; exact wpAny_bind (wpAny_rule (wpAny_bind (wpAny_mkInt (wpAny_pure ⟨_, rfl, hq⟩))))
  | some i => intro hq; exact wpAny_bind (wpAny_mkInt (wpAny_pure ⟨_, rfl, hq⟩))
theorem gives_index {i : Nat} (hi : b.findIdx? (· == c) = some i) : Gives («bytes.index» ⟨[.bytes b.toArray t, .bytes #[c] u], []⟩) (.int (i : Int)) := by
  refine .of_wp fun M A E s Q hq => ?_
  show wpAny M A (Bytes.searchM .bytes "index" false true _) _ E s
  unfold Bytes.searchM Bytes.searchArgs
  show wpAny M A ((Bytes.buffer? "bytes.index" (.bytes #[c] u) >>= fun r => _) >>= fun r => _) _ E s
  refine wpAny_bind (wpAny_bind (wpAny_of_eq KBy.buffer_eq ?_))
  refine wpAny_bind (wpAny_pure ?_)
  refine wpAny_bind (m := Bytes.payload (.bytes b.toArray t)) (wpAny_of_eq (a := b.toArray) rfl ?_)
  have hw : Bytes.window b.toArray.size none none = (0, (b.length : Int)) := by
    simp only [Bytes.window, Option.getD_none, List.size_toArray]
    rw [if_neg (by omega), if_neg (by omega), Int.min_self]
  rw [hw]
  refine wpAny_pure ?_
  have hm : ((if (b.length : Int) - 0 < ((#[c] : Array UInt8).size : Int) then none else some ((0 : Int).toNat, (b.length : Int).toNat)).bind fun (lo, hi) => if false = true then Bytes.rfind? b.toArray #[c] lo hi else Bytes.find? b.toArray #[c] lo hi) = b.findIdx? (· == c) := by
    cases b with
    | nil => rfl
    | cons x b =>
      rw [if_neg (by simp; omega)]
      exact find1 _ _
  show wpAny M A (match ((if (b.length : Int) - 0 < ((#[c] : Array UInt8).size : Int) then none else some ((0 : Int).toNat, (b.length : Int).toNat)).bind fun (lo, hi) => if false = true then Bytes.rfind? b.toArray #[c] lo hi else Bytes.find? b.toArray #[c] lo hi) with | some i => retInt i | none => _) _ E s
  rw [hm]
  rw [hi]
  exact wpAny_bind (wpAny_mkInt (wpAny_pure ⟨_, rfl, hq⟩))
theorem find_L (h : ∀ t' k, Q (.int (match b.findIdx? (· == c) with | some i => (i : Int) | none => -1) t') { s with toks := k }) : wpAny (model prog w) A (call (.builtin "bytes.find") [.bytes b.toArray t, .bytes #[c] u]) Q E s :=
  call_gives FX.slot_find (typeIs_bytes s _ t) FX.entry_find (FX.args_find _ _) gives_find (h _ _)
theorem index_L {i : Nat} (hi : b.findIdx? (· == c) = some i) (h : ∀ t' k, Q (.int (i : Int) t') { s with toks := k }) : wpAny (model prog w) A (call (.builtin "bytes.index") [.bytes b.toArray t, .bytes #[c] u]) Q E s :=
  call_gives FX.slot_index (typeIs_bytes s _ t) FX.entry_index (FX.args_index _ _) (gives_index hi) (h _ _)
theorem gives_contains {n : Int} (h0 : 0 ≤ n) (h1 : n < 256) : Gives («bytes.__contains__» ⟨[.bytes b.toArray t, .int n u], []⟩) (.val (.bool (b.contains n.toNat.toUInt8))) := by
  refine .of_wp fun M A E s Q hq => ?_
  show wpAny M A (Bytes.containsIn "bytes.__contains__" (.bytes b.toArray t) (.int n u) >>= fun r => _) _ E s
  refine wpAny_bind ?_
  unfold Bytes.containsIn
  have ha : (asIndex (.int n u)).attempt = pure (.ok n) := rfl
  refine wpAny_bind (wpAny_of_eq ha ?_)
  refine wpAny_bind (wpAny_of_eq KBy.buffer_eq ?_)
  show wpAny M A (if (decide (n < 0) || decide (n ≥ 256)) = true then _ else _) _ E s
  rw [if_neg (by simp; omega)]
  refine wpAny_pure (wpAny_pure ⟨_, rfl, ?_⟩)
  rw [List.contains_toArray]
  exact hq
theorem in_L {n : Int} (h0 : 0 ≤ n) (h1 : n < 256) (h : Q (.bool (b.contains n.toNat.toUInt8)) s) : wpAny (model prog w) A (compareOp .In (.int n u) (.bytes b.toArray t)) Q E s :=
  in_gives (typeIs_bytes s _ t) FB.slot_bytes_contains FB.entry_bytes_contains (FB.args_bytes_contains_2 _ _) (gives_contains h0 h1) h
theorem notIn_L {n : Int} (h0 : 0 ≤ n) (h1 : n < 256) (h : Q (.bool (!b.contains n.toNat.toUInt8)) s) : wpAny (model prog w) A (compareOp .NotIn (.int n u) (.bytes b.toArray t)) Q E s :=
  notIn_gives (typeIs_bytes s _ t) FB.slot_bytes_contains FB.entry_bytes_contains (FB.args_bytes_contains_2 _ _) (gives_contains h0 h1) h
end
end Mine
end
section
open PySem PySem.W PyProof.Rows PySem.Calls
open Builtin
namespace Mine
set_option maxRecDepth 100000
set_option maxHeartbeats 4000000
theorem look_bytes : typeLookup (.type "bytes") "__bytes__" = pure (some (.builtin "bytes.__bytes__")) := by rw [typeLookup_type, builtinLookup_eq_fast]; kernel_rfl
section
variable {prog : Program} {w : World} {A : Around} {E : Value → Shared → Prop} {s : Shared} {b : Array UInt8} {c : UInt8} {t u : Tok} {Q : Value → Shared → Prop}
theorem bb_new (h : Q (.bytes b t) s) : codeAny (model prog w) A (.call (.builtin "bytes.__new__") ⟨[.type "bytes", .bytes b t], []⟩) (wants Q E) s := by
  refine codeAny_of_tree ?_
  show wpAny _ A.in1 (do checkBuiltinCall "bytes.__new__" ⟨[.type "bytes", .bytes b t], []⟩; again (.builtin "bytes.__new__" ⟨[.type "bytes", .bytes b t], []⟩)) _ _ s
  refine wpAny_bind (wpAny_of_eq (F.bm_newCall _) (wpAny_pure ⟨plainId_quiet F.bm_plain _, codeAny_builtin F.bm_entry ?_⟩))
  rw [Around.under_plainId F.bm_plain _]
  unfold Builtin.«bytes.__new__»
  refine wpAny_bind (wpAny_of_eq (a := true) rfl ?_)
  refine bm_if_false rfl ?_
  refine wpAny_bind (wpAny_of_eq F.bm_sub ?_)
  refine bm_if_false rfl ?_
  refine wpAny_bind (wpAny_of_eq (F.bm_bind _) ?_)
  refine wpAny_bind (wpAny_of_eq (a := ()) rfl ?_)
  refine wpAny_bind (wpAny_of_eq (a := ()) rfl ?_)
  refine bm_if_false rfl ?_
  refine wpAny_bind (wpAny_of_eq (KBy.special_eq look_bytes) ?_)
  show wpAny _ _ (rule "bytes.__new__.of-bytes" >>= fun _ => _) _ _ _
  refine wpAny_bind (wpAny_rule ?_)
  refine wpAny_bind (wpAny_typeOf (typeIs_bytes s b t) ?_)
  refine bm_if_true rfl ?_
  show wpAny _ _ (if (Value.type "bytes" == Value.type "bytes") = true then _ else _) _ _ _
  refine bm_if_true (by decide) ?_
  first
    | exact wpAny_pure h
    | exact wpAny_bind (wpAny_pure (wpAny_pure h))
theorem bytes_of_bytes (h : Q (.bytes b t) s) : wpAny (model prog w) A (call (.type "bytes") [.bytes b t]) Q E s := by
  refine callType_codes (Q₁ := fun obj s₁ => s₁.TypeIs obj "bytes" ∧ Q obj s₁) F.bm_called (F.bm_typeCall _) F.entry_object_init
    (bb_new ⟨PySem.W.typeIs_bytes _ _ _, h⟩) fun obj s₁ h₁ => ?_
  exact ⟨h₁.1, F.args_object_init_2 obj _, object_init_meets F.bm_called.init.lookup F.bm_called.made (by decide) prog w A.in1 _ s₁ ⟨h₁.1, rfl, h₁.2⟩⟩
end

noncomputable def joinL {α : Type} (sep : List α) (ps : List (List α)) : List α := (ps.intersperse sep).flatten
theorem joinL_cons {α : Type} (sep p : List α) : ∀ (ps : List (List α)), ps ≠ [] → joinL sep (p :: ps) = p ++ sep ++ joinL sep ps
  | [], h => absurd rfl h
  | _ :: _, _ => by simp [joinL, List.intersperse]
theorem joined_eq (sep : List UInt8) (ps : List (List UInt8)) : Bytes.joined sep.toArray (ps.map List.toArray) = (joinL sep ps).toArray := by
  have key : ∀ (ps : List (List UInt8)) (k : Nat) (out : List UInt8), 0 < k →
      ((ps.map List.toArray).zipIdx k).foldl (fun out (x : Array UInt8 × Nat) => (if x.2 > 0 then out ++ sep.toArray else out) ++ x.1) out.toArray = (out ++ (ps.map (sep ++ ·)).flatten).toArray := by
    intro ps
    induction ps with
    | nil => intro k out _; simp
    | cons p ps ih =>
      intro k out hk
      rw [List.map_cons, List.zipIdx_cons, List.foldl_cons]
      simp only [gt_iff_lt, hk, if_true]
      rw [List.append_toArray, List.append_toArray, ih (k + 1) _ (by omega)]
      simp
  have fl : ∀ (ps : List (List UInt8)) (p : List UInt8), joinL sep (p :: ps) = p ++ (ps.map (sep ++ ·)).flatten := by
    intro ps
    induction ps with
    | nil => intro p; simp [joinL]
    | cons q ps ih => intro p; rw [joinL_cons _ _ _ (by simp), ih q]; simp
  unfold Bytes.joined
  cases ps with
  | nil => rfl
  | cons p ps =>
    rw [List.map_cons, List.zipIdx_cons, List.foldl_cons]
    have := key ps 1 p (by omega)
    simp only [gt_iff_lt, Nat.lt_irrefl, if_false, Array.empty_append]
    rw [fl]
    exact this
theorem joined_size (n : Nat) : ∀ (ps : List (List UInt8)), (ps.map List.toArray).toArray.foldl (fun (n : Nat) (x : Array UInt8) => n + x.size) n = n + (ps.map List.length).sum := by
  intro ps
  rw [← Array.foldl_toList]
  induction ps generalizing n with
  | nil => simp
  | cons p ps ih =>
    simp only [List.map_cons, List.foldl_cons, List.sum_cons] at ih ⊢
    rw [ih]; simp; omega
end Mine
end
section
open PySem PySem.W PyProof.Rows PySem.Calls
open Builtin
namespace Mine
set_option maxRecDepth 100000
set_option maxHeartbeats 4000000
section
variable {prog : Program} {w : World} {A : Around} {E : Value → Shared → Prop} {s : Shared} {sep : List UInt8} {t u : Tok} {D : Addr} {Q : Value → Shared → Prop}
theorem Rel2.at {α : Type} {G : α → Value → Prop} : ∀ {l : List α} {vs : List Value} (i : Nat) (h : i < l.length), Rel2 G l vs → ∃ v, vs[i]? = some v ∧ G l[i] v
  | _ :: _, _ :: _, 0, _, x => ⟨_, rfl, x.1⟩
  | a :: l, v :: vs, i + 1, h, x => by
    obtain ⟨b, hb, g⟩ := Rel2.at (l := l) (vs := vs) i (by simpa using h) x.2
    exact ⟨b, by simpa using hb, g⟩
theorem takeQuiet_eq {id : String} {b : Array UInt8} : Bytes.takeBufferQuiet? id (.bytes b t) 0 = pure (some (b, none)) := by
  unfold Bytes.takeBufferQuiet? Bytes.takeBuffer?
  rw [KBy.special_eq KBy.look_buffer, KBy.own_buffer]
  simp only [pure_bind]
  kernel_rfl
theorem letGo_all {M : Model} {keep : List Value} : ∀ (l : List (Value × Option Value)) {Q : Unit → Shared → Prop} {s : Shared}, (∀ p ∈ l, p.2 = none) → Q () s → wpAny M A (Bytes.joinLetGo l keep) Q E s
  | [], _, _, _, h => wpAny_pure h
  | (x, w) :: l, _, _, hl, h => by
    have : w = none := hl (x, w) (.head _)
    subst this
    unfold Bytes.joinLetGo
    exact wpAny_bind (wpAny_letGo (letGo_all l (fun p hp => hl p (.tail _ hp)) h))
end
section
noncomputable def meets_join_S : Prop := (∀ (sep : List UInt8) (t : Tok) (D : Addr) (vs : List Value) (ls : List (List UInt8)) (hr : Rel2 BytV ls vs) (hz : (ls.map List.length).sum + sep.length * ls.length ≤ 16777216), Meets («bytes.join» ⟨[.bytes sep.toArray t, .ref D], []⟩) (fun _ R s => s.heap.IsList D vs.toArray ∧ ∀ t' k, R (.ok (.ret (.bytes (joinL sep ls).toArray t'))) { s with toks := k }))
noncomputable def meets_join_sb1 : { pQ : (Program) → (World) → (Around) → (Result → Shared → Prop) → (Shared) → (Addr) → (Tok) → (List UInt8) → (List (List UInt8)) → (Obj) → (Nat) → (Array Value) → Prop // (∀ (prog : Program) (w : World) (A : Around) (R : Result → Shared → Prop) (s : Shared) (D : Addr) (t : Tok) (sep : List UInt8) (ls : List (List UInt8)) (o : Obj) (n : Nat) (xs : Array Value), pQ prog w A R s D t sep ls o n xs) → meets_join_S } := ⟨_, by
  intro hP_go
  intro sep t D vs ls hr hz
  refine .of_wp fun prog w A R s hS => ?_
  obtain ⟨hl, hq⟩ := hS
  have hT : s.TypeIs (.ref D) "list" := hl.typeIs
  obtain ⟨o, ho, hc, n, hd⟩ := id hl
  have hlen : vs.length = ls.length := hr.length
  show wpAny _ _ (Bytes.joinM .bytes _) _ _ _
  unfold Bytes.joinM
  refine wpAny_bind (m := selfAndOne _ _) (wpAny_pure ?_)
  dsimp only
  refine bm_if_true rfl ?_
  refine wpAny_bind ?_
  unfold Bytes.joinItems
  refine wpAny_bind (wpAny_typeOf hT ?_)
  refine bm_if_true rfl ?_
  refine wpAny_pure ?_
  refine wpAny_bind (wpAny_seqItems ho hd ?_)
  refine bm_if_true rfl ?_
  have hitem : ∀ i, i < ls.length → ∃ c u, vs.toArray.getD i Value.none = .bytes (List.toArray c) u ∧ ls[i]? = some c := fun i hi => by
    obtain ⟨v, hv, ⟨u, rfl⟩⟩ := Rel2.at i hi hr
    exact ⟨ls[i], u, by simp [hv], by simp [hi]⟩
  have hxs' : vs.toArray.size = ls.length := by simp [hlen]
  generalize hxs : vs.toArray = xs at hd hitem hxs' ⊢
  have hvs : xs.size = 1 ∨ xs.size ≠ 1 := by omega
  rcases hvs with h1 | h1
  · obtain ⟨x, rfl⟩ : ∃ x, xs = #[x] := by
      obtain ⟨l⟩ := xs
      rcases l with _ | ⟨x, _ | ⟨y, r⟩⟩
      · exact absurd h1 (by decide)
      · exact ⟨x, rfl⟩
      · exact absurd (Nat.succ.inj h1) (Nat.succ_ne_zero _)
    have hv : vs = [x] := by simpa using congrArg Array.toList hxs
    subst hv
    show wpAny _ _ (typeOf x >>= _) _ _ _
    obtain ⟨c, rfl, u, rfl⟩ : ∃ c, ls = [c] ∧ BytV c x := by
      rcases ls with _ | ⟨c, _ | ⟨y, r⟩⟩
      · exact False.elim hr
      · exact ⟨c, rfl, hr.1⟩
      · exact False.elim hr.2
    refine wpAny_bind (wpAny_typeOf (typeIs_bytes _ _ _) ?_)
    refine bm_if_true rfl ?_
    refine wpAny_bind (wpAny_rule ?_)
    refine wpAny_pure ⟨_, rfl, ?_⟩
    have := hq u s.toks
    rw [show joinL sep [c] = c from by simp [joinL]] at this
    exact this
  · obtain ⟨l⟩ := xs
    rcases l with _ | ⟨x, _ | ⟨y, r⟩⟩
    · show wpAny _ _ (forIn _ _ _ >>= _) _ _ _
      generalize (Array.mk [] : Array Value) = xs at hd hitem hxs' ⊢
      revert hz hq ho hd hitem hxs'; exact hP_go prog w A R s D t sep ls o n xs
    · exact absurd rfl h1
    · show wpAny _ _ (forIn _ _ _ >>= _) _ _ _
      revert hz hq ho hd hitem hxs'
      exact hP_go prog w A R s D t sep ls o n _⟩
namespace meets_join_go
noncomputable def c0 : (Program) × (World) × (Around) × (Result → Shared → Prop) × (Shared) × (Addr) × (Tok) × (List UInt8) × (List (List UInt8)) × (Obj) × (Nat) × (Array Value) × Unit := pick ⟨⟨default, dW, dA, default, dS, default, default, default, default, default, default, default, ()⟩⟩ fun q => meets_join_sb1.1 q.1 q.2.1 q.2.2.1 q.2.2.2.1 q.2.2.2.2.1 q.2.2.2.2.2.1 q.2.2.2.2.2.2.1 q.2.2.2.2.2.2.2.1 q.2.2.2.2.2.2.2.2.1 q.2.2.2.2.2.2.2.2.2.1 q.2.2.2.2.2.2.2.2.2.2.1 q.2.2.2.2.2.2.2.2.2.2.2.1
@[irreducible] noncomputable def prog : Program := c0.1
@[irreducible] noncomputable def w : World := c0.2.1
@[irreducible] noncomputable def A : Around := c0.2.2.1
@[irreducible] noncomputable def R : Result → Shared → Prop := c0.2.2.2.1
@[irreducible] noncomputable def s : Shared := c0.2.2.2.2.1
@[irreducible] noncomputable def D : Addr := c0.2.2.2.2.2.1
@[irreducible] noncomputable def t : Tok := c0.2.2.2.2.2.2.1
@[irreducible] noncomputable def sep : List UInt8 := c0.2.2.2.2.2.2.2.1
@[irreducible] noncomputable def ls : List (List UInt8) := c0.2.2.2.2.2.2.2.2.1
@[irreducible] noncomputable def o : Obj := c0.2.2.2.2.2.2.2.2.2.1
@[irreducible] noncomputable def n : Nat := c0.2.2.2.2.2.2.2.2.2.2.1
@[irreducible] noncomputable def xs : Array Value := c0.2.2.2.2.2.2.2.2.2.2.2.1
theorem main : meets_join_sb1.1 prog w A R s D t sep ls o n xs := by
  intro hz hq ho hd hitem hxs'
  refine wpAny_bind ?_
  rw [Std.Legacy.Range.forIn_eq_forIn_range']
  simp only [Std.Legacy.Range.size, Nat.sub_zero, Nat.add_sub_cancel, Nat.div_one, hxs']
  refine wpAny_forIn_list _ (fun rest (r : Array (Array UInt8) × List (Value × Option Value)) s' => s' = s ∧ ∃ i, i ≤ ls.length ∧ rest = List.range' i (ls.length - i) ∧ r.1 = ((ls.take i).map List.toArray).toArray ∧ (∀ p ∈ r.2, p.2 = none ∧ p.1.onHeap = false)) _ ?_ ?_ _ _ ⟨rfl, 0, Nat.zero_le _, by simp, by simp, List.forall_mem_nil _⟩
  · rintro x rest b s' ⟨rfl, i, hi, hrest, hb, hb2⟩
    have hlt : i < ls.length := by
      rcases Nat.lt_or_ge i ls.length with h | h
      · exact h
      · rw [Nat.sub_eq_zero_of_le h] at hrest; simp at hrest
    obtain ⟨rfl, hrest⟩ : x = i ∧ rest = List.range' (i + 1) (ls.length - (i + 1)) := by
      have e : ls.length - i = (ls.length - (i + 1)) + 1 := by omega
      rw [e, List.range'_succ] at hrest
      injection hrest with h1 h2
      exact ⟨h1, h2⟩
    obtain ⟨c, u, hc1, hc2⟩ := hitem x hlt
    refine wpAny_bind (wpAny_seqItems ho hd ?_)
    dsimp only
    have hany : (b.snd.any fun x => x.fst.onHeap) = false := by
      rw [List.any_eq_false]
      intro p hp
      rw [(hb2 p hp).2]; decide
    refine bm_if_false (by rw [hany]; rfl) ?_
    rw [hc1]
    refine wpAny_bind (wpAny_holding (wpAny_of_eq takeQuiet_eq ?_))
    dsimp only
    refine wpAny_bind (wpAny_seqItems ho hd ?_)
    dsimp only
    refine bm_if_false (by rw [hxs']; simp) ?_
    refine wpAny_pure ⟨rfl, x + 1, hlt, hrest, ?_, fun p hp => ?_⟩
    · rw [hb, List.take_add_one, hc2]
      simp
    · rcases List.mem_append.mp hp with hp | hp
      · exact hb2 p hp
      · rw [List.mem_singleton.mp hp]
        exact ⟨rfl, rfl⟩
  · rintro b s' ⟨rfl, i, hi, hrest, hb, hb2⟩
    have : i = ls.length := by
      rcases Nat.lt_or_ge i ls.length with h | h
      · obtain ⟨n, hn⟩ : ∃ n, ls.length - i = n + 1 := ⟨ls.length - i - 1, by omega⟩
        rw [hn, List.range'_succ] at hrest; cases hrest
      · omega
    subst this
    rw [List.take_length] at hb
    refine wpAny_bind (wpAny_of_eq (a := sep.toArray) rfl ?_)
    rw [hb]
    have hsum : (Array.foldl (fun x1 x2 => x1 + x2.size) (sep.toArray.size * ((ls.map List.toArray).toArray.size - 1)) (ls.map List.toArray).toArray) ≤ 16777216 := by
      rw [joined_size]
      simp only [List.size_toArray, List.length_map]
      have : sep.length * (ls.length - 1) ≤ sep.length * ls.length := Nat.mul_le_mul_left _ (by omega)
      omega
    refine bm_if_false (KBy.tooLong_not hsum) ?_
    have hjs : (joinL sep ls).length ≤ 16777216 := by
      have h1 : ∀ (ls : List (List UInt8)), (joinL sep ls).length ≤ (ls.map List.length).sum + sep.length * ls.length := by
        intro ls
        induction ls with
        | nil => simp [joinL]
        | cons p ls ih =>
          by_cases h0 : ls = []
          · subst h0; simp [joinL]
          · rw [joinL_cons _ _ _ h0]
            simp only [List.length_append, List.map_cons, List.sum_cons, List.length_cons, Nat.mul_succ]
            omega
      exact Nat.le_trans (h1 ls) hz
    rw [show (List.map List.toArray ls).toArray.toList = ls.map List.toArray from rfl, joined_eq]
    refine wpAny_bind (wpAny_mkBytes ?_ (by rw [sizeLine_eq]; simpa using hjs))
    refine wpAny_bind (wpAny_holding (wpAny_point ?_))
    refine wpAny_bind (letGo_all _ (fun p hp => (hb2 p hp).1) ?_)
    exact wpAny_pure ⟨_, rfl, hq _ _⟩
theorem all : ∀ a0 a1 a2 a3 a4 a5 a6 a7 a8 a9 a10 a11, meets_join_sb1.1 a0 a1 a2 a3 a4 a5 a6 a7 a8 a9 a10 a11 := by
  have q1 : (fun q : (Program) × (World) × (Around) × (Result → Shared → Prop) × (Shared) × (Addr) × (Tok) × (List UInt8) × (List (List UInt8)) × (Obj) × (Nat) × (Array Value) × Unit => meets_join_sb1.1 q.1 q.2.1 q.2.2.1 q.2.2.2.1 q.2.2.2.2.1 q.2.2.2.2.2.1 q.2.2.2.2.2.2.1 q.2.2.2.2.2.2.2.1 q.2.2.2.2.2.2.2.2.1 q.2.2.2.2.2.2.2.2.2.1 q.2.2.2.2.2.2.2.2.2.2.1 q.2.2.2.2.2.2.2.2.2.2.2.1) (pick ⟨⟨default, dW, dA, default, dS, default, default, default, default, default, default, default, ()⟩⟩ fun q => meets_join_sb1.1 q.1 q.2.1 q.2.2.1 q.2.2.2.1 q.2.2.2.2.1 q.2.2.2.2.2.1 q.2.2.2.2.2.2.1 q.2.2.2.2.2.2.2.1 q.2.2.2.2.2.2.2.2.1 q.2.2.2.2.2.2.2.2.2.1 q.2.2.2.2.2.2.2.2.2.2.1 q.2.2.2.2.2.2.2.2.2.2.2.1) := by with_unfolding_all exact main
  exact fun a0 a1 a2 a3 a4 a5 a6 a7 a8 a9 a10 a11 => pick_spec (P := fun q : (Program) × (World) × (Around) × (Result → Shared → Prop) × (Shared) × (Addr) × (Tok) × (List UInt8) × (List (List UInt8)) × (Obj) × (Nat) × (Array Value) × Unit => meets_join_sb1.1 q.1 q.2.1 q.2.2.1 q.2.2.2.1 q.2.2.2.2.1 q.2.2.2.2.2.1 q.2.2.2.2.2.2.1 q.2.2.2.2.2.2.2.1 q.2.2.2.2.2.2.2.2.1 q.2.2.2.2.2.2.2.2.2.1 q.2.2.2.2.2.2.2.2.2.2.1 q.2.2.2.2.2.2.2.2.2.2.2.1) (ne := ⟨⟨default, dW, dA, default, dS, default, default, default, default, default, default, default, ()⟩⟩) q1 ⟨a0, a1, a2, a3, a4, a5, a6, a7, a8, a9, a10, a11, ()⟩
end meets_join_go
end
section
variable {prog : Program} {w : World} {A : Around} {E : Value → Shared → Prop} {s : Shared} {sep : List UInt8} {t u : Tok} {D : Addr} {Q : Value → Shared → Prop}
theorem meets_join {vs : List Value} {ls : List (List UInt8)} (hr : Rel2 BytV ls vs) (hz : (ls.map List.length).sum + sep.length * ls.length ≤ 16777216) :
    Meets («bytes.join» ⟨[.bytes sep.toArray t, .ref D], []⟩) (fun _ R s => s.heap.IsList D vs.toArray ∧ ∀ t' k, R (.ok (.ret (.bytes (joinL sep ls).toArray t'))) { s with toks := k }) :=
  meets_join_sb1.2 meets_join_go.all sep t D vs ls hr hz
theorem bjoin_L {vs : List Value} {ls : List (List UInt8)} (hr : Rel2 BytV ls vs) (hl : s.heap.IsList D vs.toArray) (hz : (ls.map List.length).sum + sep.length * ls.length ≤ 16777216)
    (h : ∀ t' k, Q (.bytes (joinL sep ls).toArray t') { s with toks := k }) : wpAny (model prog w) A (call (.builtin "bytes.join") [.bytes sep.toArray t, .ref D]) Q E s :=
  call_meets FX.slot_join (typeIs_bytes s _ t) FX.entry_join (FX.args_join _ _) (meets_join hr hz) ⟨hl, h⟩

noncomputable abbrev StrV (x : Str) (v : Value) : Prop := ∃ u, v = .str x u
theorem strs_of : ∀ {l : List Str} {vs : List Value}, Rel2 StrV l vs → ∃ ps : List (Str × Tok), vs = strValues ps ∧ ps.map (·.1) = l
  | [], [], _ => ⟨[], rfl, rfl⟩
  | x :: l, v :: vs, h => by
    obtain ⟨u, rfl⟩ := h.1
    obtain ⟨ps, rfl, hp⟩ := strs_of h.2
    exact ⟨(x, u) :: ps, rfl, by simp [hp]⟩
theorem strJoin_size (sep : Str) : ∀ (ls : List Str) (n : Nat), ls.toArray.foldl (fun (n : Nat) (x : Str) => n + x.length + sep.length) n = n + (ls.map Str.length).sum + sep.length * ls.length := by
  intro ls
  induction ls with
  | nil => intro n; simp
  | cons p ps ih =>
    intro n
    simp only [← Array.foldl_toList] at ih ⊢
    simp only [List.map_cons, List.foldl_cons, List.sum_cons, List.length_cons] at ih ⊢
    rw [ih]
    rw [Nat.mul_succ]
    omega
theorem join_ok {sep : Str} {ls : List Str} (hz : (ls.map Str.length).sum + sep.length * ls.length ≤ 16777216) : JoinOk sep ls = true := by
  unfold JoinOk
  rw [strJoin_size]
  unfold Builtin.Str.tooLong
  rw [sizeLine_eq]
  simp; omega
theorem sjoin_L {x : Str} {vs : List Value} {ls : List Str} (hr : Rel2 StrV ls vs) (hl : s.heap.IsList D vs.toArray) (hz : (ls.map Str.length).sum + x.length * ls.length ≤ 16777216)
    (h : ∀ t' k, Q (.str (Txt.join x ls) t') { s with toks := k }) : wpAny (model prog w) A (call (.builtin "str.join") [.str x t, .ref D]) Q E s := by
  obtain ⟨ps, rfl, hp⟩ := strs_of hr
  exact SC.join hl hp (join_ok hz) h
end
end Mine
end
section
open PySem PySem.W PyProof.Rows PySem.Calls
open Builtin
namespace Mine
set_option maxRecDepth 100000
set_option maxHeartbeats 4000000
/-- a text by its code points -/
noncomputable abbrev S (l : List Nat) : Str := ⟨l.toArray⟩
theorem Rel2.map' {α β : Type} {G : α → Value → Prop} {G' : β → Value → Prop} (f : α → β) (h : ∀ a v, G a v → G' (f a) v) : ∀ {l : List α} {vs : List Value}, Rel2 G l vs → Rel2 G' (l.map f) vs
  | [], [], _ => trivial
  | _ :: _, _ :: _, x => ⟨h _ _ x.1, Rel2.map' f h x.2⟩
theorem sjoin_pure (sep : List Nat) (ls : List (List Nat)) : Txt.join (S sep) (ls.map S) = S (joinL sep ls) := by
  have key : ∀ (ls : List (List Nat)) (acc : List Nat), (ls.map S).foldl (fun acc p => acc ++ (S sep).cps ++ p.cps) acc.toArray = (acc ++ (ls.map (sep ++ ·)).flatten).toArray := by
    intro ls
    induction ls with
    | nil => intro acc; simp
    | cons p ls ih =>
      intro acc
      rw [List.map_cons, List.foldl_cons]
      have := ih (acc ++ sep ++ p)
      simp only [List.append_toArray] at this ⊢
      rw [this]; simp
  have fl : ∀ (ps : List (List Nat)) (p : List Nat), joinL sep (p :: ps) = p ++ (ps.map (sep ++ ·)).flatten := by
    intro ps
    induction ps with
    | nil => intro p; simp [joinL]
    | cons q ps ih => intro p; rw [joinL_cons _ _ _ (by simp), ih q]; simp
  unfold Txt.join Builtin.Str.glued
  cases ls with
  | nil => rfl
  | cons p ls =>
    rw [List.map_cons, fl]
    exact congrArg Str.mk (key ls p)
theorem joinL_nil {α : Type} (ls : List (List α)) : joinL [] ls = ls.flatten := by
  induction ls with
  | nil => rfl
  | cons p ls ih =>
    by_cases h : ls = []
    · subst h; simp [joinL]
    · rw [joinL_cons _ _ _ h, ih]; simp
section
variable {prog : Program} {w : World} {A : Around} {E : Value → Shared → Prop} {s : Shared} {t : Tok} {D : Addr} {Q : Value → Shared → Prop}
noncomputable abbrev TxtV (l : List Nat) (v : Value) : Prop := ∃ u, v = .str (S l) u
theorem tjoin_L {sep : List Nat} {x : Str} (hx : x = S sep) {vs : List Value} {ls : List (List Nat)} (hr : Rel2 TxtV ls vs) (hl : s.heap.IsList D vs.toArray) (hz : (ls.map List.length).sum + sep.length * ls.length ≤ 16777216)
    (h : ∀ t' k, Q (.str (S (joinL sep ls)) t') { s with toks := k }) : wpAny (model prog w) A (call (.builtin "str.join") [.str x t, .ref D]) Q E s := by
  subst hx
  refine sjoin_L (ls := ls.map S) (hr.map' S fun _ _ h => h) hl ?_ fun t' k => by rw [sjoin_pure]; exact h t' k
  rw [List.map_map, List.length_map]
  exact hz
end
end Mine
end
section
open PySem PySem.W PyProof.Rows PySem.Calls
open Builtin
open PyProof.Rows.LCg (lst Off3 Off1 NsObj ns_obj lst_snoc fr_but news_but)
namespace Mine
set_option maxRecDepth 100000
set_option maxHeartbeats 4000000
section
variable {prog : Program} {w : World} {A : Around} {E : Value → Shared → Prop} {s : Shared} {t u : Tok} {value slice : PySem.Expr} {i : Int} {n : Nat} {Q : Value → Shared → Prop}
theorem str_item {x : Str} {l : List Nat} {c : Nat} (hx : x = S l) (hi : i = (n : Int)) (hn : l[n]? = some c) (hz : n < 1000000000) (h : ∀ t' k, Q (.str (S [c]) t') { s with toks := k })
    (hs : subscripted slice false (.str x t) (.int i u) = operate [.str x t, .int i u] (getItem (.str x t) (.int i u)) := by with_unfolding_all rfl)
    (ht : ∀ r, letTemporaryGo value (.str x t) r = pure () := by intro _; with_unfolding_all rfl) :
    wpAny (model prog w) A (subscriptTail value slice (.str x t) (.int i u)) Q E s := by
  subst hx hi
  refine tail_of_ItemOn ⟨"str", _, F.slot_str_getitem.lookup, typeIs_str _ _ _, P.getItem_str (c := c) ?_ ?_ (h _ _)⟩ hs ht
  · simp; omega
  · have hl : n < l.length := by
      rcases Nat.lt_or_ge n l.length with h | h
      · exact h
      · rw [List.getElem?_eq_none h] at hn; cases hn
    have : seqIndex? (n : Int) (S l).length = some n := by
      have hn : ¬ (n : Int) < 0 := by omega
      have : (S l).length = l.length := by simp [Str.length]
      simp [seqIndex?, this]; omega
    rw [this]; simpa using hn
theorem len_S {l : List Nat} {Q : Value → Shared → Prop} (hfit : l.length ≤ 1099511627776) (h : ∀ t' k, Q (.int (l.length : Int) t') { s with toks := k }) : wpAny (model prog w) A (call (.builtin "len") [.str (S l) t]) Q E s := by
  have e : (S l).length = l.length := by simp [Str.length]
  refine P.len_str (by rw [e]; omega) ?_
  rw [e]
  exact h _ _
theorem byte_item {l : List UInt8} {c : UInt8} (hi : i = (n : Int)) (hn : l[n]? = some c) (hz : l.length ≤ 1000000000) (h : ∀ t' k, Q (.int (c.toNat : Int) t') { s with toks := k })
    (hs : subscripted slice false (.bytes l.toArray t) (.int i u) = operate [.bytes l.toArray t, .int i u] (getItem (.bytes l.toArray t) (.int i u)) := by with_unfolding_all rfl)
    (ht : ∀ r, letTemporaryGo value (.bytes l.toArray t) r = pure () := by intro _; with_unfolding_all rfl) :
    wpAny (model prog w) A (subscriptTail value slice (.bytes l.toArray t) (.int i u)) Q E s := by
  subst hi
  have hl : n < l.length := by
    rcases Nat.lt_or_ge n l.length with h | h
    · exact h
    · rw [List.getElem?_eq_none h] at hn; cases hn
  refine KBy.item_N (by omega) (by omega) (by omega) ?_ hs ht
  have : l.getD n 0 = c := by rw [List.getD_eq_getElem?_getD, hn]; rfl
  rw [Int.toNat_natCast, this]
  exact h _ _
end
section
variable {prog : Program} {w : World} {A : Around} {E : Value → Shared → Prop} {s : Shared} {h₀ : Heap} {L D : Addr} {m : PySem.Str → Option Value} {pre post : List (Addr × Obj)} {ys : List Value} {y : Value} {Q : Value → Shared → Prop}
theorem append_L (pre post : List (Addr × Obj)) (F : Fr h₀ L s.heap m) (N : News h₀ L s.heap (pre ++ (D, lst ys) :: post)) (hap : ∀ p ∈ pre ++ post, p.1 ≠ D) (hz : ys.length ≤ 1000000)
    (h : ∀ h', Fr h₀ L h' m → News h₀ L h' (pre ++ (D, lst (ys ++ [y])) :: post) → Heap.SameBut D s.heap h' → Q .none { s with heap := h' }) :
    wpAny (model prog w) A (call (.builtin "list.append") [.ref D, y]) Q E s := by
  have z := N (D, lst ys) (by simp)
  refine append_at (hsz := by show ys.toArray.size ≤ sizeLine; rw [List.size_toArray, sizeLine_eq]; omega) z.1 fun h' hs ho' => h h' (F.change hs z.2.1 z.2.2) (fun p hp => ?_) hs
  rcases List.mem_append.mp hp with hp | hp
  · exact ⟨hs.extBut _ _ (hap p (List.mem_append_left _ hp)) (N p (List.mem_append_left _ hp)).1, (N p (List.mem_append_left _ hp)).2⟩
  · rcases List.mem_cons.mp hp with rfl | hp
    · exact ⟨ho'.trans (congrArg some (lst_snoc ys y)), z.2⟩
    · have q := N p (List.mem_append_right _ (List.mem_cons_of_mem _ hp))
      exact ⟨hs.extBut _ _ (hap p (List.mem_append_right _ hp)) q.1, q.2⟩
end

section
variable {prog : Program} {w : World} {A : Around} {h : Heap}
theorem iter_range_by {r : Addr} {a b c : Int} {t u v : Tok} {n : Nat} (hh : A.handled = none) (hr : IsRange h r a b c t u v) (hsm : Builtin.Range.small a b c = true) (hn : Builtin.Range.rangeSize a b c = (n : Int)) :
    IterOf prog w A (.ref r) h (List.range n) (fun k v => ∃ u, v = .int (a + (k : Int) * c) u) [] := by
  refine ⟨stand_nil, List.forall_mem_nil _, fun s Q E hs hQ => ?_⟩
  subst hs
  have W : Walks prog w A s.heap.objs.size [s.heap.objs.size] [s.heap.objs.size] n (fun i v => i < n ∧ ∃ t, v = .int (a + i * c) t) (fun i h => IsRangeIter h s.heap.objs.size (a + (i : Nat) * c) ((n : Int) - (i : Nat)) c) := (Walks.range hh s.heap.objs.size a c n).bound
  refine wpAny_pyIter_range hr hsm (hQ _ _ _ ⟨⟨W.sub, W.frame, fun i s' Q' E' hi st hQ' => ?_, fun s' Q' E' st hQ' => ?_, W.self⟩, fun i h st => ⟨_, st⟩, fun i h h' o st e e' hS => ?_⟩ rfl (fun _ _ e => by cases e) (fun b hb => ?_) (by show IsRangeIter _ _ _ _ _; rw [hn]; simpa using Heap.get?_push_size _ rfl))
  · have hi' : i < n := by simpa using hi
    refine W.item i s' Q' E' hi' st fun v h' tk hP => hQ' v h' tk ⟨i, ?_, hP.2⟩
    simp [hi']
  · exact W.done s' Q' E' (by simpa using st) hQ'
  · have st' : h.get? s.heap.objs.size = some _ := st
    show h'.get? _ = some _
    rw [e', ← e]; exact st'
  · rw [List.mem_singleton.mp hb]; exact Nat.lt_succ_self _
end
end Mine
end
section
open PySem PySem.W PyProof.Rows PySem.Calls PySem.SeqAt
open Builtin
namespace Mine
set_option maxRecDepth 100000
set_option maxHeartbeats 4000000
namespace FX
theorem sub_int_bytes : isSubtype (.type "int") (.type "bytes") = pure false := by rw [isSubtype_type]; kernel_rfl
theorem sub_int_bytes' : isInstance (.int 0 0) (.type "bytes") = pure false := by
  have e : isInstance (.int 0 0) (.type "bytes") = isSubtype (.type "int") (.type "bytes") := rfl
  rw [e, sub_int_bytes]
end FX
theorem gives_eq_int (b : Array UInt8) (t : Tok) (n : Int) (u : Tok) : Gives («bytes.__eq__» ⟨[.bytes b t, .int n u], []⟩) (.val .notImplemented) := by
  refine .of_wp fun M A E s Q hq => ?_
  refine wpAny_bind (m := slotArgs _ 1 _) (wpAny_pure ?_)
  dsimp only
  refine wpAny_bind (wpAny_isInstance (typeIs_int s n u) FX.sub_int_bytes ?_)
  refine bm_if_true rfl ?_
  exact wpAny_bind (wpAny_rule (wpAny_pure ⟨_, rfl, hq⟩))
theorem gives_ne_int (b : Array UInt8) (t : Tok) (n : Int) (u : Tok) : Gives («bytes.__ne__» ⟨[.bytes b t, .int n u], []⟩) (.val .notImplemented) := by
  refine .of_wp fun M A E s Q hq => ?_
  refine wpAny_bind (m := slotArgs _ 1 _) (wpAny_pure ?_)
  dsimp only
  refine wpAny_bind (wpAny_isInstance (typeIs_int s n u) FX.sub_int_bytes ?_)
  refine bm_if_true rfl ?_
  exact wpAny_bind (wpAny_rule (wpAny_pure ⟨_, rfl, hq⟩))
theorem int_eq_bytes (b : Array UInt8) (t : Tok) (n : Int) (u : Tok) : Gives («int.__eq__» ⟨[.int n u, .bytes b t], []⟩) (.val .notImplemented) :=
  .of_wp fun M A E s Q h => by obtain ⟨hp, g, d, tk, os⟩ := s; wp_walk; exact ⟨_, rfl, h⟩
theorem int_ne_bytes (b : Array UInt8) (t : Tok) (n : Int) (u : Tok) : Gives («int.__ne__» ⟨[.int n u, .bytes b t], []⟩) (.val .notImplemented) :=
  .of_wp fun M A E s Q h => by obtain ⟨hp, g, d, tk, os⟩ := s; wp_walk; exact ⟨_, rfl, h⟩
section
variable {A : Around} {s : Shared}
theorem rc_bytes_int (b : Array UInt8) (t : Tok) (n : Int) (u : Tok) : RcAt A s (.bytes b t) (.int n u) false := fun prog w E Q h =>
  rc_eq_decline_or (k := false) (typeIs_bytes s b t) (typeIs_int s n u) (by decide) FX.sub_int_bytes FB.slot_bytes_eq F.slot_int_eq_refl
    (fun _ hq => call_gives FB.slot_bytes_eq (typeIs_bytes s b t) FB.entry_bytes_eq (FB.args_bytes_eq_2 _ _) (gives_eq_int b t n u) hq)
    (fun _ hq => call_gives F.slot_int_eq_refl (typeIs_int s n u) F.entry_int_eq (F.args_int_eq_2 _ _) (int_eq_bytes b t n u) hq)
    (fun _ hq => wpAny_of_eq (rfl : isSame (.bytes b t) (.int n u) = pure false) hq) (.inl rfl) h
theorem rcne_bytes_int (b : Array UInt8) (t : Tok) (n : Int) (u : Tok) : RcNeAt A s (.bytes b t) (.int n u) true := fun prog w E Q h =>
  rc_ne_decline_or (k := false) (typeIs_bytes s b t) (typeIs_int s n u) (by decide) FX.sub_int_bytes FB.slot_bytes_ne F.slot_int_ne_refl
    (fun _ hq => call_gives FB.slot_bytes_ne (typeIs_bytes s b t) FB.entry_bytes_ne (FB.args_bytes_ne_2 _ _) (gives_ne_int b t n u) hq)
    (fun _ hq => call_gives F.slot_int_ne_refl (typeIs_int s n u) F.entry_int_ne (F.args_int_ne_2 _ _) (int_ne_bytes b t n u) hq)
    (fun _ hq => wpAny_of_eq (rfl : isSame (.bytes b t) (.int n u) = pure false) hq) (.inl rfl) h
variable {prog : Program} {w : World} {E : Value → Shared → Prop} {b : Array UInt8} {t u : Tok} {n : Int} {Q : Value → Shared → Prop}
theorem eq_bytes_int (h : Q (.bool false) s) : wpAny (model prog w) A (compareOp .Eq (.bytes b t) (.int n u)) Q E s := rc_bytes_int b t n u prog w E Q h
theorem ne_bytes_int (h : Q (.bool true) s) : wpAny (model prog w) A (compareOp .NotEq (.bytes b t) (.int n u)) Q E s := rcne_bytes_int b t n u prog w E Q h
end
end Mine
end
section
open PySem PySem.W PyProof.Rows PySem.Calls PySem.SeqAt
open Builtin
open PyProof.Rows.LCg (lst Off3 Off1 NsObj ns_obj lst_snoc fr_but news_but)
namespace Mine
set_option maxRecDepth 100000
set_option maxHeartbeats 4000000
section
variable {prog : Program} {w : World} {A : Around} {E : Value → Shared → Prop} {s : Shared} {h₀ : Heap} {L l : Addr} {m : PySem.Str → Option Value} {news : List (Addr × Obj)} {items : Array Value} {o : Obj} {n : Nat} {Q : Value → Shared → Prop}
theorem list_of {T : String} (F : Fr h₀ L s.heap m) (N : News h₀ L s.heap news) (ho : s.heap.get? l = some o) (hT : T = "list" ∨ T = "tuple") (hc : o.cls = .type T) (hd : o.data = .seq items n) (hz : items.size ≤ 1000000)
    (h : ∀ D c h', Fr h₀ L h' m → News h₀ L h' ((D, listOf items c) :: news) → s.heap.StaysIn h' → (∀ p ∈ news, p.1 < D) → s.heap.get? D = none → Q (.ref D) { s with heap := h' }) : wpAny (model prog w) A (call (.type "list") [.ref l]) Q E s := by
  refine call_list_seq l hT ho hc hd (fun h' c' hk hD => h _ c' h' (F.keeps hk) (fun p hp => ?_) hk (fun p hp => Heap.lt_size (N p hp).1) (Heap.get?_none_of_le (Nat.le_refl _))) (by rw [sizeLine_eq]; omega)
  rcases List.mem_cons.mp hp with rfl | hp
  · refine ⟨hD, Nat.ne_of_gt F.ns.lt, ?_⟩
    cases q : h₀.get? s.heap.objs.size with
    | none => rfl
    | some o => exact absurd (Heap.lt_size (F.keep _ _ q)) (Nat.lt_irrefl _)
  · exact ⟨hk _ _ (N p hp).1, (N p hp).2⟩
/-- an item of a tuple or a list -/
theorem item_of {value slice : PySem.Expr} {i : Int} {k : Nat} {u : Tok} {v : Value} {T : String} (ho : s.heap.get? l = some o) (hT : T = "list" ∨ T = "tuple") (hc : o.cls = .type T) (hd : o.data = .seq items n) (hi : i = (k : Int)) (hk : items[k]? = some v) (hz : items.size ≤ 1000000)
    (h : Q v s)
    (hs : subscripted slice false (.ref l) (.int i u) = operate [.ref l, .int i u] (getItem (.ref l) (.int i u)) := by with_unfolding_all rfl)
    (ht : ∀ r, letTemporaryGo value (.ref l) r = pure () := by intro _; with_unfolding_all rfl) :
    wpAny (model prog w) A (subscriptTail value slice (.ref l) (.int i u)) Q E s := by
  subst hi
  have hlt : k < items.size := by
    rcases Nat.lt_or_ge k items.size with h | h
    · exact h
    · rw [Array.getElem?_eq_none h] at hk; cases hk
  rcases hT with rfl | rfl
  · exact item_list ⟨o, ho, hc, n, hd⟩ (by omega) (by omega) (by simpa using hk) h hs ht
  · refine item_tuple (j := k) ⟨o, ho, hc, n, hd⟩ (by omega) (by omega) ?_ hk h hs ht
    have : ¬ (k : Int) < 0 := by omega
    simp [seqIndex?, this]; omega
end
end Mine
end
section
open PySem PySem.W PyProof.Rows PySem.Calls PySem.SeqAt
open Builtin
open PyProof.Rows.LCg (lst Off3 Off1 NsObj ns_obj lst_snoc fr_but news_but)
namespace Mine
set_option maxRecDepth 100000
set_option maxHeartbeats 4000000
section
variable {prog : Program} {w : World} {A : Around} {E : Value → Shared → Prop} {s : Shared} {a b : Addr} {xs : List Value} {Q : Value → Shared → Prop}
theorem rc_empty (ha : s.heap.IsList a xs.toArray) (hb : s.heap.IsList b #[]) (hu : A.units < cLine) : RcAt A s (.ref a) (.ref b) xs.isEmpty := by
  cases xs with
  | nil => exact RcAt.lists (e := fun _ => true) ha hb rfl hu fun j h1 _ => absurd h1 (Nat.not_lt_zero _)
  | cons x xs => exact RcAt.lists_lengths ha hb (by simp) hu
theorem rcne_empty (ha : s.heap.IsList a xs.toArray) (hb : s.heap.IsList b #[]) (hu : A.units < cLine) : RcNeAt A s (.ref a) (.ref b) (!xs.isEmpty) := by
  cases xs with
  | nil => exact RcNeAt.lists (e := fun _ => true) ha hb rfl hu fun j h1 _ => absurd h1 (Nat.not_lt_zero _)
  | cons x xs => exact RcNeAt.lists_lengths ha hb (by simp) hu
theorem eq_empty (ha : s.heap.IsList a xs.toArray) (hb : s.heap.IsList b #[]) (hu : A.units < cLine) (h : Q (.bool xs.isEmpty) s) : wpAny (model prog w) A (compareOp .Eq (.ref a) (.ref b)) Q E s := rc_empty ha hb hu prog w E Q h
theorem ne_empty (ha : s.heap.IsList a xs.toArray) (hb : s.heap.IsList b #[]) (hu : A.units < cLine) (h : Q (.bool (!xs.isEmpty)) s) : wpAny (model prog w) A (compareOp .NotEq (.ref a) (.ref b)) Q E s := rcne_empty ha hb hu prog w E Q h
end
end Mine
end
section
open PySem PySem.W PyProof.Rows PySem.Calls PySem.SeqAt
open Builtin
namespace Mine
set_option maxRecDepth 100000
set_option maxHeartbeats 4000000
namespace FX
theorem type_join : typeOf (.builtin "bytes.join") = pure (.type "method_descriptor") := by show builtinType _ = _; rw [builtinType_eq_fast]; kernel_rfl
theorem type_find : typeOf (.builtin "bytes.find") = pure (.type "method_descriptor") := by show builtinType _ = _; rw [builtinType_eq_fast]; kernel_rfl
theorem type_index : typeOf (.builtin "bytes.index") = pure (.type "method_descriptor") := by show builtinType _ = _; rw [builtinType_eq_fast]; kernel_rfl
end FX
section
variable {M : Model} {A : Around} {E : Value → Shared → Prop} {s : Shared} {b : Array UInt8} {t : Tok} {pl : Sem Bool} {Q : Value × List Value → Shared → Prop}
theorem gm_join (h : Q (.builtin "bytes.join", [.bytes b t]) s) : wpAny M A (getMethod (.bytes b t) "join" pl) Q E s := getMethod_builtin (typeIs_bytes s b t) FB.plainAttrs_bytes FX.slot_join FX.type_join (fun _ e => nomatch e) h
theorem gm_find (h : Q (.builtin "bytes.find", [.bytes b t]) s) : wpAny M A (getMethod (.bytes b t) "find" pl) Q E s := getMethod_builtin (typeIs_bytes s b t) FB.plainAttrs_bytes FX.slot_find FX.type_find (fun _ e => nomatch e) h
theorem gm_index (h : Q (.builtin "bytes.index", [.bytes b t]) s) : wpAny M A (getMethod (.bytes b t) "index" pl) Q E s := getMethod_builtin (typeIs_bytes s b t) FB.plainAttrs_bytes FX.slot_index FX.type_index (fun _ e => nomatch e) h
end
end Mine
end
section
open PySem PySem.W PyProof.Rows PySem.Calls PySem.SeqAt
open Builtin
open PyProof.Rows.LCg (lst Off3 Off1 NsObj ns_obj lst_snoc fr_but news_but)
namespace Mine
set_option maxRecDepth 100000
set_option maxHeartbeats 4000000
section
variable {prog : Program} {w : World} {A : Around} {E : Value → Shared → Prop} {s : Shared} {h₀ : Heap} {L l : Addr} {m : PySem.Str → Option Value} {ys : List Value} {y : Value} {Q : Value → Shared → Prop} {value slice : PySem.Expr} {u : Tok}
theorem item_last (hl : s.heap.IsList l (ys ++ [y]).toArray) (h : Q y s)
    (hs : subscripted slice false (.ref l) (.int (-1) u) = operate [.ref l, .int (-1) u] (getItem (.ref l) (.int (-1) u)) := by with_unfolding_all rfl)
    (ht : ∀ r, letTemporaryGo value (.ref l) r = pure () := by intro _; with_unfolding_all rfl) :
    wpAny (model prog w) A (subscriptTail value slice (.ref l) (.int (-1) u)) Q E s := by
  refine subscriptTail_builtin hl.typeIs slot_list_getitem.lookup (wpAny_getItem_list_neg (x := y) hl (by decide) (by simp; omega) (by decide) ?_ h) hs ht
  have e : (-1 + (((ys ++ [y]).toArray.size : Nat) : Int)).toNat = ys.length := by simp; omega
  rw [e]; simp
end

section
variable {prog : Program} {w : World} {A : Around} {E : Value → Shared → Prop} {s : Shared} {h₀ : Heap} {L D : Addr} {m : PySem.Str → Option Value} {items : Array Value} {o : Obj} {n k : Nat} {v : Value} {Q : Unit → Shared → Prop} {u : Tok}
theorem setitem_L (pre post : List (Addr × Obj)) (F : Fr h₀ L s.heap m) (N : News h₀ L s.heap (pre ++ (D, o) :: post)) (hc : o.cls = .type "list") (hd : o.data = .seq items n) (hap : ∀ p ∈ pre ++ post, p.1 ≠ D) (hk : k < items.size) (hz : items.size ≤ 1000000)
    (h : ∀ h' o' n', Fr h₀ L h' m → News h₀ L h' (pre ++ (D, o') :: post) → o'.cls = .type "list" → o'.data = .seq (items.setIfInBounds k v) n' → Q () { s with heap := h' }) :
    wpAny (model prog w) A (setItem (.ref D) (.int (k : Int) u) v) Q E s := by
  have z := N (D, o) (by simp)
  refine wpAny_setItem_list ⟨o, z.1, hc, n, hd⟩ (by omega) (by omega) (by omega) fun h' hl hs => ?_
  obtain ⟨o', ho', hc', n', hd'⟩ := hl
  refine h h' o' n' (F.change hs z.2.1 z.2.2) (fun p hp => ?_) hc' (by simpa using hd')
  rcases List.mem_append.mp hp with hp | hp
  · exact ⟨hs.extBut _ _ (hap p (List.mem_append_left _ hp)) (N p (List.mem_append_left _ hp)).1, (N p (List.mem_append_left _ hp)).2⟩
  · rcases List.mem_cons.mp hp with rfl | hp
    · exact ⟨ho', z.2⟩
    · have q := N p (List.mem_append_right _ (List.mem_cons_of_mem _ hp))
      exact ⟨hs.extBut _ _ (hap p (List.mem_append_right _ hp)) q.1, q.2⟩
end
end Mine
end
section
open PySem PySem.W PyProof.Rows PySem.Calls PySem.SeqAt
open Builtin Builtin.Str
open PyProof.Rows.LCg (lst Off3 Off1 NsObj ns_obj lst_snoc fr_but news_but)
namespace Mine
set_option maxRecDepth 100000
set_option maxHeartbeats 4000000
section
variable {prog : Program} {w : World} {A : Around} {E : Value → Shared → Prop} {s : Shared} {h₀ : Heap} {L : Addr} {m : PySem.Str → Option Value} {news : List (Addr × Obj)} {x y : PySem.Str} {t u : Tok} {Q : Value → Shared → Prop}
theorem split_L (F : Fr h₀ L s.heap m) (N : News h₀ L s.heap news) (hy : (y.length == 0) = false) (hx : x.length ≤ 1000000)
    (hp : (partsBetween x (occurrences x y 0 x.length (x.length + 1)) y.length).length ≤ 1000000)
    (h : ∀ D l c h' k, l.map (·.1) = Txt.split x y → Fr h₀ L h' m → News h₀ L h' ((D, listOf (strValues l).toArray c) :: news) → (∀ p ∈ news, p.1 < D) → s.heap.StaysIn h' → Q (.ref D) { s with heap := h', toks := k }) :
    wpAny (model prog w) A (call (.builtin "str.split") [.str x t, .str y u]) Q E s := by
  have key : ∀ (l : List (Str × Tok)) k, l.map (·.1) = Txt.split x y → Q (.ref s.heap.objs.size) { s with toks := k, heap := s.heap.push { cls := .type "list", data := .seq (strValues l).toArray } } := fun l k hl => by
    refine h s.heap.objs.size l 0 _ k hl (F.push _) (fun p hp => ?_) (fun p hp => Heap.lt_size (N p hp).1) (fun b o hb => Heap.get?_push_of_some _ hb)
    rcases List.mem_cons.mp hp with rfl | hp
    · refine ⟨Heap.get?_push_size _ rfl, Nat.ne_of_gt F.ns.lt, ?_⟩
      cases q : h₀.get? s.heap.objs.size with
      | none => rfl
      | some o => exact absurd (Heap.lt_size (F.keep _ _ q)) (Nat.lt_irrefl _)
    · exact ⟨Heap.get?_push_of_some _ (N p hp).1, (N p hp).2⟩
  cases h1 : (decide (x.length < y.length) || decide (strKind x < strKind y))
  · cases hf : (occurrences x y 0 x.length (x.length + 1)).isEmpty
    · refine call_meets PySem.F.slot_str_split (typeIs_str _ _ _) PySem.F.entry_str_split (PySem.F.args_str_split_2 _ _) (meets_str_split_sep x y t u h1 hy hf (by rw [sizeLine_eq]; omega) (by rw [sizeLine_eq]; omega)) ?_
      show wants Q E _ { s with toks := _, heap := s.heap.push { cls := .type "list", data := .seq (strsFrom s.toks (partsBetween x (occurrences x y 0 x.length (x.length + 1)) y.length)).toArray } }
      rw [strsFrom_eq]
      exact key (numbered s.toks _) _ ((numbered_texts _ _).trans ((if_neg (ne_true_of_eq_false h1)).trans (if_neg (ne_true_of_eq_false hf))).symm)
    · exact call_meets PySem.F.slot_str_split (typeIs_str _ _ _) PySem.F.entry_str_split (PySem.F.args_str_split_2 _ _) (meets_str_split_not_found x y t u h1 hy hf)
        (key [(x, t)] s.toks ((if_neg (ne_true_of_eq_false h1)).trans (if_pos hf)).symm)
  · exact call_meets PySem.F.slot_str_split (typeIs_str _ _ _) PySem.F.entry_str_split (PySem.F.args_str_split_2 _ _) (meets_str_split_cannot_occur x y t u h1)
      (key [(x, t)] s.toks (if_pos h1).symm)
end
end Mine
end
section
open PySem PySem.W PyProof.Rows PySem.Calls PySem.SeqAt
open Builtin Builtin.Str
open PyProof.Rows.LCg (lst Off3 Off1 NsObj ns_obj lst_snoc fr_but news_but)
namespace Mine
set_option maxRecDepth 100000
set_option maxHeartbeats 4000000
section
variable {prog : Program} {w : World} {A : Around} {E : Value → Shared → Prop} {s : Shared} {h₀ : Heap} {L D : Addr} {m : PySem.Str → Option Value} {news : List (Addr × Obj)} {Q : Value → Shared → Prop}
/-- some item of a list, whatever stands ahead of the bracket -/
theorem item_any {value slice : PySem.Expr} {k : Int} {u : Tok} {items : Array Value} {n : Nat} (P : Value → Prop) (N : News h₀ L s.heap news) (hm : (D, listOf items n) ∈ news) (h0 : 0 ≤ k) (hlt : k < (items.size : Int)) (hz : items.size ≤ 1000000)
    (hP : ∀ v ∈ items.toList, P v) (h : ∀ v, P v → Q v s)
    (hs : subscripted slice false (.ref D) (.int k u) = operate [.ref D, .int k u] (getItem (.ref D) (.int k u)) := by with_unfolding_all rfl) :
    wpAny (model prog w) A (subscriptTail value slice (.ref D) (.int k u)) Q E s := by
  refine kba_turn (value' := PySem.Expr.Name (PySem.Str.ofString "_") ⟨0, 0, 0, 0⟩) (fun _ => rfl) ?_
  have hl : k.toNat < items.size := by omega
  have hv : items[k.toNat]? = some items[k.toNat] := Array.getElem?_eq_getElem hl
  exact item_of (T := "list") (k := k.toNat) (N _ hm).1 (.inl rfl) rfl rfl (by omega) hv hz (h _ (hP _ (by simp))) hs
end
end Mine
end
section
open PySem PySem.W PyProof.Rows PySem.Calls PySem.SeqAt
open Builtin Builtin.Str
open PyProof.Rows.LCg (lst Off3 Off1 NsObj ns_obj lst_snoc fr_but news_but)
namespace Mine
set_option maxRecDepth 100000
set_option maxHeartbeats 4000000
/-- two values that compare equal, whatever stands around (k: the depth) -/
noncomputable def Same (s : Shared) (k : Nat) (v w : Value) : Prop := ∀ A : Around, A.units + k < cLine → EqAt A s v w true
section
variable {s : Shared} {k : Nat}
theorem same_bytes {l : Array UInt8} {t u : Tok} : Same s k (.bytes l t) (.bytes l u) := fun A _ prog w E Q h => by
  unfold eqBool
  refine wpAny_holding ?_
  refine wpAny_ite_split (fun _ => ?_) (fun _ => ?_)
  · exact wpAny_bind (wpAny_rule (wpAny_pure h))
  · refine wpAny_bind ?_
    show wpAny _ _ (compareOp .Eq (.bytes l t) (.bytes l u)) _ _ _
    exact eq_bytes (by rw [beq_self_eq_true]; exact wpAny_truthy_bool h)
theorem same_str {x : PySem.Str} {t u : Tok} : Same s k (.str x t) (.str x u) := fun A _ => by
  have := EqAt.str_str (A := A) (s := s) x t x u
  rwa [beq_self_eq_true] at this
theorem all_true (n : Nat) : (List.range n).all (fun _ => true) = true := by simp
theorem same_tup {l b : Addr} {items items2 : Array Value} (hl : s.heap.IsTuple l items) (hb : s.heap.IsTuple b items2) (hsz : items.size = items2.size) (he : ∀ j (h1 : j < items.size) (h2 : j < items2.size), Same s k items[j] items2[j]) : Same s (k + 1) (.ref l) (.ref b) := fun A hu => by
  by_cases hne : l = b
  · subst hne; exact EqAt.same _
  · refine EqAt.of_refs hne ?_
    have := RcAt.tuples (A := A) (e := fun _ => true) hl hb (by omega) fun j h1 h2 => he j h1 h2 A.in1 (by show A.units + 1 + k < _; omega)
    rwa [all_true, hsz, beq_self_eq_true] at this
theorem same_list {l b : Addr} {items items2 : Array Value} (hl : s.heap.IsList l items) (hb : s.heap.IsList b items2) (hsz : items.size = items2.size) (he : ∀ j (h1 : j < items.size) (h2 : j < items2.size), Same s k items[j] items2[j]) : Same s (k + 1) (.ref l) (.ref b) := fun A hu => by
  by_cases hne : l = b
  · subst hne; exact EqAt.same _
  · refine EqAt.of_refs hne ?_
    have := RcAt.lists (A := A) (e := fun _ => true) hl hb hsz (by omega) fun j h1 h2 => he j h1 h2 A.in1 (by show A.units + 1 + k < _; omega)
    rwa [all_true] at this
end
section
variable {prog : Program} {w : World} {A : Around} {E : Value → Shared → Prop} {s : Shared} {k : Nat} {l b : Addr} {items items2 : Array Value} {Q : Value → Shared → Prop}
theorem eq_tup (hl : s.heap.IsTuple l items) (hb : s.heap.IsTuple b items2) (hsz : items.size = items2.size) (he : ∀ j (h1 : j < items.size) (h2 : j < items2.size), Same s k items[j] items2[j]) (hu : A.units + 1 + k < cLine) (h : Q (.bool true) s) :
    wpAny (model prog w) A (compareOp .Eq (.ref l) (.ref b)) Q E s := by
  have := RcAt.tuples (A := A) (e := fun _ => true) hl hb (by omega) fun j h1 h2 => he j h1 h2 A.in1 hu
  rw [all_true, hsz, beq_self_eq_true] at this
  exact this prog w E Q h
theorem ne_tup (hl : s.heap.IsTuple l items) (hb : s.heap.IsTuple b items2) (hsz : items.size = items2.size) (he : ∀ j (h1 : j < items.size) (h2 : j < items2.size), Same s k items[j] items2[j]) (hu : A.units + 1 + k < cLine) (h : Q (.bool false) s) :
    wpAny (model prog w) A (compareOp .NotEq (.ref l) (.ref b)) Q E s := by
  have := RcNeAt.tuples (A := A) (e := fun _ => true) hl hb (by omega) fun j h1 h2 => he j h1 h2 A.in1 hu
  rw [all_true, hsz, beq_self_eq_true] at this
  exact this prog w E Q h
theorem ne_none (h : Q (.bool false) s) : wpAny (model prog w) A (compareOp .NotEq .none .none) Q E s := RcNeAt.none_none prog w E Q h
end
end Mine
end
section
open PySem PySem.W PyProof.Rows PySem.Calls
open Builtin Builtin.Str
namespace Mine
set_option maxRecDepth 100000
set_option maxHeartbeats 4000000
/-- a list of code points cut at every c -/
noncomputable def splitL {α : Type} [DecidableEq α] (c : α) : List α → List (List α)
  | [] => [[]]
  | x :: r => if x = c then [] :: splitL c r else match splitL c r with
    | p :: q => (x :: p) :: q
    | [] => [[x]]
theorem splitL_map {α β : Type} [DecidableEq α] [DecidableEq β] (f : α → β) (hf : ∀ a b, f a = f b → a = b) (c : α) : ∀ l, splitL (f c) (l.map f) = (splitL c l).map (List.map f)
  | [] => rfl
  | x :: r => by
    have ih := splitL_map f hf c r
    rw [List.map_cons, splitL, splitL, ih]
    by_cases h : x = c
    · rw [if_pos (by rw [h]), if_pos h]; rfl
    · rw [if_neg (fun e => h (hf _ _ e)), if_neg h]
      cases splitL c r <;> rfl
theorem splitL_ne (c : Nat) : ∀ l, splitL c l ≠ []
  | [] => by simp [splitL]
  | x :: r => by
    unfold splitL
    split
    · simp
    · split <;> simp
theorem splitL_free (c : Nat) : ∀ (p : List Nat), c ∉ p → splitL c p = [p]
  | [], _ => rfl
  | x :: r, h => by
    have h1 : x ≠ c := fun e => h (by rw [e]; exact List.mem_cons_self)
    rw [splitL, if_neg h1, splitL_free c r fun hm => h (List.mem_cons_of_mem _ hm)]
theorem splitL_app (c : Nat) : ∀ (p l : List Nat), c ∉ p → splitL c (p ++ c :: l) = p :: splitL c l
  | [], l, _ => by simp [splitL]
  | x :: r, l, h => by
    have h1 : x ≠ c := fun e => h (by rw [e]; exact List.mem_cons_self)
    rw [List.cons_append, splitL, if_neg h1, splitL_app c r l fun hm => h (List.mem_cons_of_mem _ hm)]
theorem splitL_join (c : Nat) : ∀ (ps : List (List Nat)), ps ≠ [] → (∀ p ∈ ps, c ∉ p) → splitL c (joinL [c] ps) = ps
  | [], h, _ => absurd rfl h
  | [p], _, h => by
    rw [show joinL [c] [p] = p by simp [joinL]]
    exact splitL_free c p (h p List.mem_cons_self)
  | p :: q :: r, _, h => by
    have e := joinL_cons [c] p (q :: r) (by simp)
    rw [e, List.append_assoc, List.singleton_append, splitL_app c _ _ (h p List.mem_cons_self), splitL_join c (q :: r) (by simp) fun x hx => h x (List.mem_cons_of_mem _ hx)]
theorem S_inj (l : Str) : S l.cps.toList = l := by cases l; simp
theorem split_pure (l : List Nat) (c : Nat) : Txt.split (S l) (S [c]) = (splitL c l).map S := by
  have free1 : ∀ ps : List Str, ps ≠ [] → Txt.join (S [c]) ps = S l → (∀ p ∈ ps, c ∉ p.cps.toList) → ps = (splitL c l).map S := by
    intro ps hne hj hf
    have e : ps = (ps.map (·.cps.toList)).map S := by
      rw [List.map_map]
      exact (List.map_id'' (fun p => S_inj p) ps).symm
    rw [e, sjoin_pure] at hj
    have hj' : joinL [c] (ps.map (·.cps.toList)) = l := by
      have := congrArg (fun x : Str => x.cps.toList) hj
      simpa using this
    have := splitL_join c (ps.map (·.cps.toList)) (by simpa using hne) (fun p hp => by
      obtain ⟨q, hq, rfl⟩ := List.mem_map.mp hp
      exact hf q hq)
    rw [hj'] at this
    rw [this]; exact e
  have hj : Txt.join (S [c]) (Txt.split (S l) (S [c])) = S l := by
    show Builtin.Str.glued _ _ = _
    rw [StrLaws.glued_eq_join, StrLaws.join_split]
  refine free1 _ ?_ hj ?_
  · unfold Txt.split
    split
    · simp
    · split
      · simp
      · rw [StrLaws.partsBetween_eq]
        obtain ⟨p, r, e⟩ := StrLaws.partsFrom_ne (S l) (S [c]).length 0 (occurrences (S l) (S [c]) 0 (S l).length ((S l).length + 1))
        rw [e]; simp
  · exact fun p hp => StrLaws.split_free _ _ p hp
/-- the words of a list of octets, blanks between -/
noncomputable def splitW (ws : List UInt8) : List (List UInt8) := (splitL 32 ws).filter (fun x => !x.isEmpty)
end Mine
end
section
open PySem PySem.W PyProof.Rows PySem.Calls
open PyProof.Rows.LCg (lst Off3 Off1 NsObj ns_obj lst_snoc fr_but news_but)
namespace Mine
set_option maxRecDepth 100000
theorem words2 : True := by
  k_with "ktr_room" => ktr_room
  k_with "kby_idx" => (refine enterC (by k_asm) (by k_asm) (by k_asm) (by k_asm) (by exact rfl) (by exact rfl) (by assumption) (by k_is) (by k_is) (by k_extra "ktr_room") (by first | exact BindsTo.of_eq rfl | exact binds_K (by k_in) rfl (by k_is) rfl rfl rfl) (by exact rfl) (by decide +kernel) ?_ (by exact rfl) (by exact rfl) (by exact rfl); k_whole; intro _ _ _ _ _ _ Y' _ _ _; k_cells Y'; (try dsimp only); (try k_fold))
  k_with "cell_enter" => (refine enterP (by k_asm) (by k_asm) (by k_asm) (by k_asm) (by exact rfl) (by exact rfl) (by assumption) (by k_is) (by k_is) (by k_extra "ktr_room") (by first | exact BindsTo.of_eq rfl | exact binds_K (by k_in) rfl (by k_is) rfl rfl rfl) (by exact locs rfl) ?_ (by exact rfl) (by exact rfl) (by exact rfl) (by decide); k_whole; intro _ _ _ _ _ _ _; (try dsimp only); (try k_fold))
  k_with "exec Raise some none" => (k_here; (with_reducible show wpAny _ _ (exec (PySem.Stmt.Raise (some (PySem.Expr.Call (PySem.Expr.Name _ _) [PySem.Expr.Constant _ _ _] [] _)) none _) _) _ _ _); k_dflt (refine raise_bad (by k_asm) (by k_asm) (by k_asm) (by k_asm) (by exact rfl) (by first | exact rfl | assumption) (by exact rfl) (by k_extra "ktr_room") (by exact rfl) ?_; k_whole; intro _ _ _ _ _ kk' nw' he'); (try dsimp only at kk' nw'); revert kk' nw' he'; intro _ _ _)
  k_with "leaving ref" => (k_here; k_dflt first
      | (refine leave_exc (by assumption) (by assumption) (by assumption) ?_; k_whole; intro _ _)
      | (refine leave_bad (by assumption) (by assumption) (by assumption) (by assumption) (by assumption) ?_; k_whole; intro _ _))
  k_with "ktr_step" => (k_dflt (refine comp_expr (exc := False) (by k_asm) rfl rfl (fun x => x.elim) (by rfl) (by decide) (by rfl) (by decide) (by rfl) ?_))
  k_with "ktr_units" => (k_dflt (refine comp_assign (exc := False) (by k_asm) rfl rfl rfl (fun x => x.elim) (by with_unfolding_all rfl) (by rfl) (by decide) (by rfl) (by decide) (by rfl) (by rfl) (by rfl) ?_))
  k_with "kba_size" => ((try simp only [List.length_append, List.length_cons, List.length_nil, List.length_take, List.length_drop, List.length_map]); omega)
  k_with "binaryOp Add bytes bytes" => (k_here; (with_reducible show wpAny _ _ (binaryOp Operator.Add (Value.bytes (List.toArray _) _) (Value.bytes (List.toArray _) _)) _ _ _); k_dflt (refine add_L (by k_extra "kba_size") ?_); intro _ _)
  k_with "call builtin:len" => (k_here; (with_reducible show wpAny _ _ (call (Value.builtin "len") [Value.bytes (List.toArray _) _]) _ _ _); k_dflt (refine len_L (by k_extra "kba_size") ?_); intro _ _)
  k_with "compareOp Eq" => (k_here; (with_reducible show wpAny _ _ (compareOp CmpOp.Eq (Value.bytes (List.toArray _) _) (Value.bytes (List.toArray _) _)) _ _ _); k_dflt (refine eq_L ?_))
  k_with "compareOp NotEq" => (k_here; (with_reducible show wpAny _ _ (compareOp CmpOp.NotEq (Value.bytes (List.toArray _) _) (Value.bytes (List.toArray _) _)) _ _ _); k_dflt (refine ne_L ?_))
  k_with "call builtin:chr" => (k_here; (with_reducible show wpAny _ _ (call (Value.builtin "chr") [Value.int _ _]) _ _ _); k_dflt (refine P.chr_of_range (by omega) (by omega) ?_))
  k_with "call builtin:ord" => (k_here; (with_reducible show wpAny _ _ (call (Value.builtin "ord") [Value.str (Str.mk #[_]) _]) _ _ _); k_dflt (refine P.ord_of_char ?_))
  k_with "call type:bytes" => (k_here; (with_reducible show wpAny _ _ (call (Value.type "bytes") [Value.bytes _ _]) _ _ _); k_dflt (refine bytes_of_bytes ?_))
  k_with "subscriptTail" => (k_here; (with_reducible show wpAny _ _ (subscriptTail _ (PySem.Expr.Slice _ _ none _) (Value.bytes (List.toArray _) _) (Value.ref _)) _ _ _); k_dflt (refine slice_L (s := ⟨_, _, _, _, _⟩) (by k_asm) (by k_asm) (by constructor) (by constructor) (by k_extra "kba_size") ?_); intro _ _ _ _ _ _)
  k_with "k_one" => (first | (k_unfold; (try dsimp only)) | ( (fail_if_success (with_reducible show wpAny _ _ (call (PySem.Value.ref _) _) _ _ _)); (fail_if_success (with_reducible show wpAny _ _ (call (PySem.Value.builtin "list.append") _) _ _ _)); (fail_if_success (with_reducible show wpAny _ _ (call (PySem.Value.builtin "str.join") _) _ _ _)); (fail_if_success (with_reducible show wpAny _ _ (call (PySem.Value.builtin "str.split") _) _ _ _)); (fail_if_success (with_reducible show wpAny _ _ (call (PySem.Value.type "bytes") [PySem.Value.ref _]) _ _ _)); (fail_if_success (with_reducible show wpAny _ _ (call (PySem.Value.type "list") [PySem.Value.ref _]) _ _ _)); (fail_if_success (with_reducible show wpAny _ _ (subscriptTail _ _ (Value.ref _) (Value.int _ _)) _ _ _)); (fail_if_success (with_reducible show wpAny _ _ (compareOp _ (Value.ref _) (Value.ref _)) _ _ _)); (fail_if_success (with_reducible show wpAny _ _ (call (PySem.Value.builtin "bytes.join") _) _ _ _)); (fail_if_success (with_reducible show wpAny _ _ (subscriptTail _ _ (Value.bytes _ _) (Value.int _ _)) _ _ _)); (fail_if_success (with_reducible show wpAny _ _ (subscriptTail _ _ (Value.str _ _) (Value.int _ _)) _ _ _)); (fail_if_success (with_reducible show wpAny _ _ (eval (PySem.Expr.ListComp _ _ _ _) _) _ _ _)); (fail_if_success (with_reducible show wpAny _ _ (exec (PySem.Stmt.Assign _ (PySem.Expr.ListComp _ _ _ _) _) _) _ _ _)); (fail_if_success (with_reducible show wpAny _ _ (exec (PySem.Stmt.For _ _ _ _ _) _) _ _ _)); (fail_if_success (with_reducible show wpAny _ _ (exec (PySem.Stmt.While _ _ _ _) _) _ _ _)); (fail_if_success (with_reducible show wpAny _ _ (exec (PySem.Stmt.If (PySem.Expr.Compare _ [CmpOp.NotEq] [PySem.Expr.List [] _] _) _ _ _) _) _ _ _)); (fail_if_success (with_reducible show wpAny _ _ (exec (PySem.Stmt.Try _ _ _ _ _) _) _ _ _)); first | walk1 | (dsimp only; walk1)) | fail "no step")
  k_with "k_steps" => repeat' k_extra "k_one"
  k_with "k_toif" => repeat' ((fail_if_success (with_reducible show wpAny _ _ (execs (PySem.Stmt.If _ _ _ _ :: _) _) _ _ _)); k_extra "k_one")
  k_with "ktr_room" => (simp only [ktrTop, Around.deeper] at *; omega)
  k_with "ktr_room" => (dsimp only [ktrTop, Around.deeper]; omega)
  k_with "call builtin:len" => (k_here; (with_reducible show wpAny _ _ (call (Value.builtin "len") [Value.str (S _) _]) _ _ _); k_dflt (refine len_S (by assumption) ?_); intro _ _)
  k_with "compareOp Eq" => (k_here; (with_reducible show wpAny _ _ (compareOp CmpOp.Eq (Value.bytes _ _) (Value.int _ _)) _ _ _); k_dflt (refine eq_bytes_int ?_))
  k_with "compareOp NotEq" => (k_here; (with_reducible show wpAny _ _ (compareOp CmpOp.NotEq (Value.bytes _ _) (Value.int _ _)) _ _ _); k_dflt (refine ne_bytes_int ?_))
  k_with "ktr_enter" => (k_dflt (refine enterM (by k_asm) (by k_asm) (by k_asm) (by k_asm) (by k_asm) (by exact rfl) (by exact rfl) (by assumption) (by k_is) (by k_is) (by k_extra "ktr_room") (by first | exact BindsTo.of_eq rfl | exact binds_K (by k_in) rfl (by k_is) rfl rfl rfl) (by exact locs rfl) ?_ (by exact rfl) (by exact rfl) (by exact rfl) (by decide); k_whole; intro _ _ _ _ _ _ _ _; (try dsimp only); (try k_fold)))
  k_with "k_inst" => (refine InstAt.of_stand (by k_asm) (by assumption) (by k_mem) (by k_mem))
  k_with "execs cons" => (k_here; (with_reducible refine wpAny_execs_cons ?_); (try dsimp only))
  k_with "execs nil" => (k_here; (with_reducible refine wpAny_execs_nil ?_); (try dsimp only))
  k_with "ktr_units" => (k_dflt (refine comp_assign (exc := False) (by k_asm) rfl rfl rfl (fun x => x.elim) (by with_unfolding_all rfl) (by rfl) (by decide) (by rfl) (by decide) (by rfl) (by rfl) (by rfl) ?_))
  k_with "getMethod bytes" => (k_here; first | (with_reducible refine gm_join ?_) | (with_reducible refine gm_find ?_) | (with_reducible refine gm_index ?_))
  k_with "leaving ref" => (k_here; (with_reducible show wpAny _ (Around.deeper _ (envOfC _ _ _ _ _)) _ _ _ _); k_dflt first
      | (refine leave_excX (by assumption) (by assumption) (by assumption) ?_; k_whole; intro _ _)
      | (refine leave_badX (by assumption) (by assumption) (by assumption) (by assumption) (by assumption) ?_; k_whole; intro _ _))
  k_with "storeName" => (k_here; k_dflt (refine storeX_Lu (by k_asm) (by k_asm) ?_ (by rfl) (by rfl); k_whole; intro _ _ _; (try k_sweep)))
  k_with "kba_same" => (intro z h1; (try dsimp only [ovr, upd]); first | rfl | (simp only [h1, if_false]; done) | (simp [h1]; done) | (simp_all; done))
  k_with "enP" => (refine enterP (by k_asm) (by k_asm) (by k_asm) (by k_asm) (by exact rfl) (by exact rfl) (by assumption) (by k_is) (by k_is) (by k_extra "ktr_room") (by first | exact BindsTo.of_eq rfl | exact binds_K (by k_in) rfl (by k_is) rfl rfl rfl) (by exact locs rfl) (by exact hP) (by exact rfl) (by exact rfl) (by exact rfl) (by decide))
  k_with "enM" => (refine enterM (by k_asm) (by k_asm) (by exact N) (by k_asm) (by k_asm) (by exact rfl) (by exact rfl) (by assumption) (by k_is) (by k_is) (by k_extra "ktr_room") (by first | exact BindsTo.of_eq rfl | exact binds_K (by k_in) rfl (by k_is) rfl rfl rfl) (by exact locs rfl) (by exact hP) (by exact rfl) (by exact rfl) (by exact rfl) (by decide))
  k_with "enC" => (refine enterC (by k_asm) (by k_asm) (by k_asm) (by k_asm) (by exact rfl) (by exact rfl) (by assumption) (by k_is) (by k_is) (by k_extra "ktr_room") (by first | exact BindsTo.of_eq rfl | exact binds_K (by k_in) rfl (by k_is) rfl rfl rfl) (by exact rfl) (by decide +kernel) (by exact hP) (by exact rfl) (by exact rfl) (by exact rfl))
  k_with "enCM" => (refine enterCM (by k_asm) (by k_asm) (by exact N) (by k_asm) (by k_asm) (by exact rfl) (by exact rfl) (by assumption) (by k_is) (by k_is) (by k_extra "ktr_room") (by first | exact BindsTo.of_eq rfl | exact binds_K (by k_in) rfl (by k_is) rfl rfl rfl) (by exact rfl) (by decide +kernel) (by exact hP) (by exact rfl) (by exact rfl) (by exact rfl))
  trivial
local macro_rules | `(tactic| walk_at $s:str) => `(tactic| k_extra $s)
local macro_rules | `(tactic| k_inst) => `(tactic| k_extra "k_inst")
section
structure Cx where
  w : World
  mean : ExcName → Option Value
  mg : Str → Option Value
  mb : Str → Option Value
  dp : Nat
  un : Nat
  gd : Option (List Code)
  cn : Str
  cs : Scope
  a : Addr
  ccd : Value
  cl : List (Str × Addr)
  outer : List Env
  A₀ : Around
  base : Heap
  h₀ : Heap
  L : Addr
  m : Str → Option Value
  s : Shared
  Q : Value → Shared → Prop
  E : Value → Shared → Prop
  o : Obj
  io : Obj
noncomputable def cx0 : Cx :=
  ⟨dW, fun _ => none, fun _ => none, fun _ => none, 0, 0, none, default, default, default, default, [], [], dA, default, default, default, fun _ => none, dS, fun _ _ => True, fun _ _ => True, default, default⟩
/-- what a call of the def at f hands back, what it lays new, and when it raises BadLine -/
noncomputable def SpecAt (w : World) (mean : ExcName → Option Value) (mg mb : Str → Option Value) (dp un : Nat) (gd : Option (List Code)) (cn : Str) (cs : Scope) (a : Addr) (ccd : Value) (cl : List (Str × Addr)) (outer : List Env) (A₀ : Around) (base h₀ : Heap) (L : Addr) (m : Str → Option Value) (s : Shared) (Q E : Value → Shared → Prop) (lv : Nat) (f : Addr) (vs : List Value) (pre : Heap → Prop) (post : Value → List (Addr × Obj) → Prop) (exc : Prop) : Prop :=
    Below A₀ base outer h₀ → Fr h₀ L s.heap m → (hd.heap_1 w.params).In h₀ → Top vw LO mean mg mb h₀ → cs.kind = .function → dp + 4 * lv < recursionLimit → un + 40 * lv < cLine → pre s.heap →
    (∀ r tl h' tk', s.heap.StaysIn h' → (∀ p ∈ tl, h'.get? p.1 = some p.2 ∧ s.heap.get? p.1 = none) → post r tl → Q r { s with heap := h', toks := tk' }) →
    (exc → ∀ e h' tk', ExcAt (envX cn cs L a ccd cl :: outer) s.heap h' e → E (.ref e) { s with heap := h', toks := tk' }) →
    wpAny (model PR w) (ktrTop dp un gd cn cs L a ccd cl outer) (call (.ref f) vs) Q E s
noncomputable def Spec (w : World) (mean : ExcName → Option Value) (mg mb : Str → Option Value) (lv : Nat) (f : Addr) (vs : List Value) (pre : Heap → Prop) (post : Value → List (Addr × Obj) → Prop) (exc : Prop) : Prop :=
  ∀ (dp un : Nat) (gd : Option (List Code)) (cn : Str) (cs : Scope) (a : Addr) (ccd : Value) (cl : List (Str × Addr)) (outer : List Env) (A₀ : Around) (base h₀ : Heap) (L : Addr) (m : Str → Option Value) (s : Shared) (Q E : Value → Shared → Prop), SpecAt w mean mg mb dp un gd cn cs a ccd cl outer A₀ base h₀ L m s Q E lv f vs pre post exc

section
variable {w : World} {mean : ExcName → Option Value} {mg mb : Str → Option Value} {lv : Nat} {f : Addr} {vs : List Value} {news : List (Addr × Obj)} {pre : Heap → Prop} {post : Value → List (Addr × Obj) → Prop} {exc : Prop} {dp un : Nat} {gd : Option (List Code)} {cn : Str} {cs : Scope} {a : Addr} {ccd : Value} {cl : List (Str × Addr)} {outer : List Env} {A₀ : Around} {base h₀ : Heap} {L : Addr} {m : Str → Option Value} {s : Shared} {Q E : Value → Shared → Prop}
theorem Spec.use (S : Spec w mean mg mb lv f vs pre post exc) (B : Below A₀ base outer h₀) (F : Fr h₀ L s.heap m) (X : (hd.heap_1 w.params).In h₀) (N : News h₀ L s.heap news) (T : Top vw LO mean mg mb h₀) (hk : cs.kind = .function) (hd : dp + 4 * lv < recursionLimit) (hu : un + 40 * lv < cLine) (hp : pre s.heap)
    (h : ∀ r tl h' tk', Fr h₀ L h' m → News h₀ L h' (tl ++ news) → (∀ p ∈ tl, ∀ q ∈ news, p.1 ≠ q.1) → s.heap.StaysIn h' → post r tl → Q r { s with heap := h', toks := tk' })
    (hE : exc → ∀ e h' tk', ExcAt (envX cn cs L a ccd cl :: outer) s.heap h' e → E (.ref e) { s with heap := h', toks := tk' }) :
    wpAny (model PR w) (ktrTop dp un gd cn cs L a ccd cl outer) (call (.ref f) vs) Q E s := by
  refine S _ _ _ _ _ _ _ _ _ _ _ _ _ _ _ _ _ B F X T hk hd hu hp (fun r tl h' tk' st htl hp => ?_) hE
  refine h r tl h' tk' (F.keeps st) (fun p hp => ?_) (fun p hp q hq e => ?_) st hp
  · rcases List.mem_append.mp hp with hp | hp
    · refine ⟨(htl p hp).1, fun e => ?_, ?_⟩
      · obtain ⟨o, _, _, ho, _⟩ := F.ns
        rw [← e, (htl p hp).2] at ho; cases ho
      · cases q : h₀.get? p.1 with
        | none => rfl
        | some o => have := F.keep _ _ q; rw [(htl p hp).2] at this; cases this
    · exact ⟨st _ _ (N p hp).1, (N p hp).2⟩
  · have := (N q hq).1
    rw [← e, (htl p hp).2] at this; cases this
end
end
section
set_option maxHeartbeats 4000000
noncomputable def fig (k : Int) : Option Int := if 48 ≤ k ∧ k ≤ 57 then some (k - 48) else if 97 ≤ k ∧ k ≤ 102 then some (k - 87) else if 65 ≤ k ∧ k ≤ 70 then some (k - 55) else none
section
variable {w : World} {mean : ExcName → Option Value} {mg mb : Str → Option Value}
theorem figure_spec (k : Int) (tk : Tok) : Spec w mean mg mb 2 111 [.int k tk] (fun _ => True) (fun r tl => tl = [] ∧ ∃ v t, fig k = some v ∧ r = .int v t) (fig k = none) := by
  intro dp un gd cn cs a ccd cl outer A₀ base h₀ L m s Q E B F X T hk hd hu hp hret hexc
  refine wpAny_call ?_
  k_dflt k_extra "cell_enter"
  k_extra "k_steps"
  all_goals (try dsimp only)
  all_goals first
    | with_reducible refine hexc ?_ _ _ _ (by assumption)
    | with_reducible refine hret _ [] _ _ (fr_stays (by assumption)) (List.forall_mem_nil _) ⟨rfl, _, _, ?_, rfl⟩
  all_goals (simp only [fig]; (repeat' split) <;> first | rfl | omega)
end
end
section
set_option maxHeartbeats 4000000
noncomputable def tx (b : List UInt8) : List Nat := b.map (·.toNat)
theorem empty_S : Str.ofString "" = S [] := rfl
theorem tx_flat : ∀ b : List UInt8, (b.map fun c : UInt8 => [c.toNat]).flatten = tx b
  | [] => rfl
  | x :: b => by rw [List.map_cons, List.flatten_cons, tx_flat b]; rfl
theorem sum_ones {α : Type} (l : List α) : (l.map fun _ => 1).sum = l.length := by
  induction l with
  | nil => rfl
  | cons x l ih => simp [ih]; omega
section
variable {w : World} {mean : ExcName → Option Value} {mg mb : Str → Option Value}
theorem text_of_spec (b : List UInt8) (tb : Tok) (hb : b.length ≤ 1000000) : Spec w mean mg mb 2 64 [.bytes b.toArray tb] (fun _ => True) (fun r tl => tl = [] ∧ TxtV (tx b) r) False := by
  intro dp un gd cn cs a ccd cl outer A₀ base h₀ L m s Q E B F X T hk hd hu hp hret hexc
  refine wpAny_call ?_
  k_dflt k_extra "cell_enter"
  k_extra "k_steps"
  k_extra "ktr_step"
  k_extra "k_steps"
  refine CompGo.rel (fun c y => TxtV [c.toNat] y) (iter_bytes rfl) (by k_asm) (by k_asm) (List.forall_mem_nil _) (by rw [sizeLine_eq]; simpa using (by omega)) ?_ ?_ (fun x => x.elim)
  · intro c v C oC m₂ hc hz0 hn hx I oI D ys h tk Q' E' F' N' off ne hret' _
    obtain ⟨u, rfl⟩ := hz0
    have := c.toNat_lt
    k_extra "k_steps"
    exact hret' _ _ _ F' N' ⟨_, rfl⟩
  · intro ys hr D h tk F' N' o1
    k_extra "k_steps"
    refine tjoin_L empty_S (hr.map' (fun c : UInt8 => [c.toNat]) (fun _ _ h => h)) (News.isList (by k_asm) (by k_mem)) (by rw [List.map_map]; show (b.map fun _ => 1).sum + 0 * _ ≤ _; rw [sum_ones]; omega) fun t' k' => ?_
    k_extra "k_steps"
    (try dsimp only)
    rw [joinL_nil, tx_flat]
    with_reducible exact hret _ [] _ _ (fr_stays (by assumption)) (List.forall_mem_nil _) ⟨rfl, _, rfl⟩
end
end
section
set_option maxHeartbeats 4000000
section
variable {w : World} {mean : ExcName → Option Value} {mg mb : Str → Option Value}
theorem octets_of_spec (b : List UInt8) (tb : Tok) (hb : b.length ≤ 1000000) : Spec w mean mg mb 2 69 [.str (S (tx b)) tb] (fun _ => True) (fun r tl => tl = [] ∧ BytV b r) False := by
  intro dp un gd cn cs a ccd cl outer A₀ base h₀ L m s Q E B F X T hk hd hu hp hret hexc
  refine wpAny_call ?_
  k_dflt k_extra "cell_enter"
  k_extra "k_steps"
  k_extra "ktr_units"
  k_extra "k_steps"
  refine CompGo.rel (xs := tx b) (fun c y => ∃ t, y = .int (c : Int) t) (iter_str rfl) (by k_asm) (by k_asm) (List.forall_mem_nil _) (by rw [sizeLine_eq]; simp only [tx, List.length_map]; omega) ?_ ?_ (fun x => x.elim)
  · intro c v C oC m₂ hc hz0 hn hx I oI D ys h tk Q' E' F' N' off ne hret' _
    obtain ⟨u, rfl⟩ := hz0
    k_extra "k_steps"
    exact hret' _ _ _ F' N' ⟨_, rfl⟩
  · intro ys hr D h tk F' N' o1
    have hr' : Rel2 OctV b ys := Rel2.unmap (fun c : UInt8 => c.toNat) hr
    k_extra "k_steps"
    refine for_rule (exc := False) (by k_asm) rfl rfl (by rfl) (by rfl) ?_
    k_extra "k_steps"
    refine ForGo.inv (σ := Unit) (fun _ _ => True) (fun _ => []) (fun _ => [(D, lst ys)]) () (IterOf.rel hr' (iter_list (ol := lst ys) rfl (N' (D, lst ys) (List.mem_cons_self)).1 rfl rfl)) (by k_asm) (by k_asm) (fun _ => rfl) trivial ?_ ?_ (fun x => x.elim)
    · intro i c a st h tk ha hz0 _ hS J oJ Q' E' F'' N'' hne hnext hbrk hret' _
      obtain ⟨u, rfl⟩ := hz0
      have := c.toNat_lt
      k_extra "k_steps"
      exact hnext () _ _ _ _ (.inl rfl) F'' (by k_extra "kba_same") N'' hne (by assumption) trivial
    · rintro st o h' tk' _ hS F'' N''
      k_extra "k_steps"
      refine bytes_of_list (by k_asm) (by k_asm) rfl (News.isList (by k_asm) (by k_mem)) hr' (by omega) fun h' t' k' F' N' => ?_
      k_extra "k_steps"
      with_reducible exact hret _ [] _ _ (fr_stays (by assumption)) (List.forall_mem_nil _) ⟨rfl, _, rfl⟩
end
end
section
set_option maxHeartbeats 4000000
section
variable {w : World} {mean : ExcName → Option Value} {mg mb : Str → Option Value}
/-- the hex sign of a half octet -/
noncomputable def hx (k : Nat) : UInt8 := if k < 10 then (48 + k).toUInt8 else (87 + k).toUInt8
noncomputable def hexL (b : List UInt8) : List UInt8 := (b.map fun c => [hx (c.toNat / 16), hx (c.toNat % 16)]).flatten
theorem sixteen_S : Str.ofString "0123456789abcdef" = S [48, 49, 50, 51, 52, 53, 54, 55, 56, 57, 97, 98, 99, 100, 101, 102] := by rfl
theorem hx_at {k : Nat} (h : k < 16) : ([48, 49, 50, 51, 52, 53, 54, 55, 56, 57, 97, 98, 99, 100, 101, 102] : List Nat)[k]? = some (hx k).toNat := by
  revert h k; decide
theorem and15 {n : Nat} (h : n < 256) : Builtin.bitAnd (n : Int) 15 = ((n % 16 : Nat) : Int) := by
  revert h n; decide +kernel
theorem hexL_length : ∀ b : List UInt8, (hexL b).length = 2 * b.length
  | [] => rfl
  | x :: b => by
    have := hexL_length b
    simp only [hexL, List.map_cons, List.flatten_cons, List.length_append, List.length_cons, List.length_nil] at this ⊢
    omega
theorem hexL_append (b c : List UInt8) : hexL (b ++ c) = hexL b ++ hexL c := by simp [hexL]
theorem hexL_take {b : List UInt8} {i : Nat} {c : UInt8} (h : b[i]? = some c) : hexL (b.take (i + 1)) = hexL (b.take i) ++ ([hx (c.toNat / 16)] ++ [hx (c.toNat % 16)]) := by
  rw [List.take_add_one, h, hexL_append]; rfl
end
section
namespace hex_of_specK
noncomputable def skP (w : World) (mean : ExcName → Option Value) (mg : Str → Option Value) (mb : Str → Option Value) (dp : Nat) (un : Nat) (gd : Option (List Code)) (cn : Str) (cs : Scope) (a : Addr) (ccd : Value) (cl : List (Str × Addr)) (outer : List Env) (A₀ : Around) (base : Heap) (h₀ : Heap) (L : Addr) (m : Str → Option Value) (s : Shared) (Q : Value → Shared → Prop) (E : Value → Shared → Prop) (b : List UInt8) (tb : Tok) : Prop :=
  (b.length ≤ 100000) → SpecAt w mean mg mb dp un gd cn cs a ccd cl outer A₀ base h₀ L m s Q E 2 76 [.bytes b.toArray tb] (fun _ => True) (fun r tl => tl = [] ∧ TxtV (tx (hexL b)) r) False
noncomputable def skc : Cx × (List UInt8) × (Tok) × Unit := pick ⟨(cx0, default, default, ())⟩ (fun p : Cx × (List UInt8) × (Tok) × Unit => skP p.1.w p.1.mean p.1.mg p.1.mb p.1.dp p.1.un p.1.gd p.1.cn p.1.cs p.1.a p.1.ccd p.1.cl p.1.outer p.1.A₀ p.1.base p.1.h₀ p.1.L p.1.m p.1.s p.1.Q p.1.E p.2.1 p.2.2.1)
@[irreducible] noncomputable def w : World := skc.1.w
@[irreducible] noncomputable def mean : ExcName → Option Value := skc.1.mean
@[irreducible] noncomputable def mg : Str → Option Value := skc.1.mg
@[irreducible] noncomputable def mb : Str → Option Value := skc.1.mb
@[irreducible] noncomputable def dp : Nat := skc.1.dp
@[irreducible] noncomputable def un : Nat := skc.1.un
@[irreducible] noncomputable def gd : Option (List Code) := skc.1.gd
@[irreducible] noncomputable def cn : Str := skc.1.cn
@[irreducible] noncomputable def cs : Scope := skc.1.cs
@[irreducible] noncomputable def a : Addr := skc.1.a
@[irreducible] noncomputable def ccd : Value := skc.1.ccd
@[irreducible] noncomputable def cl : List (Str × Addr) := skc.1.cl
@[irreducible] noncomputable def outer : List Env := skc.1.outer
@[irreducible] noncomputable def A₀ : Around := skc.1.A₀
@[irreducible] noncomputable def base : Heap := skc.1.base
@[irreducible] noncomputable def h₀ : Heap := skc.1.h₀
@[irreducible] noncomputable def L : Addr := skc.1.L
@[irreducible] noncomputable def m : Str → Option Value := skc.1.m
@[irreducible] noncomputable def s : Shared := skc.1.s
@[irreducible] noncomputable def Q : Value → Shared → Prop := skc.1.Q
@[irreducible] noncomputable def E : Value → Shared → Prop := skc.1.E
@[irreducible] noncomputable def b : List UInt8 := skc.2.1
@[irreducible] noncomputable def tb : Tok := skc.2.2.1
noncomputable def en : { P : Addr → Heap → Prop // (∀ L' h', P L' h') → skP w mean mg mb dp un gd cn cs a ccd cl outer A₀ base h₀ L m s Q E b tb } :=
  ⟨_, by
  intro hP hb B F X T hk hd hu hp hret hexc
  refine wpAny_call ?_
  k_dflt k_extra "enP"⟩
noncomputable def enc : Addr × Heap := pick ⟨default⟩ fun p => en.1 p.1 p.2
@[irreducible] noncomputable def L' : Addr := enc.1
@[irreducible] noncomputable def h' : Heap := enc.2
theorem enall (q : en.1 L' h') : ∀ a b, en.1 a b := by
  have q1 : (fun p : Addr × Heap => en.1 p.1 p.2) (pick ⟨default⟩ fun p => en.1 p.1 p.2) := by with_unfolding_all exact q
  exact fun a b => pick_spec (P := fun p : Addr × Heap => en.1 p.1 p.2) (ne := ⟨default⟩) q1 (a, b)
theorem skmain : skP w mean mg mb dp un gd cn cs a ccd cl outer A₀ base h₀ L m s Q E b tb := by
  intro hb B F X T hk hd hu hp hret hexc
  refine en.2 (enall ?_) hb B F X T hk hd hu hp hret hexc
  intro _ _ _ _ _
  (try dsimp only)
  k_extra "k_steps"
  refine for_rule (exc := False) (by k_asm) rfl rfl (by rfl) (by rfl) ?_
  k_extra "k_steps"
  refine ForGo.inv (σ := List Value) (fun i st => Rel2 (fun (c : UInt8) y => TxtV [c.toNat] y) (hexL (b.take i)) st) (fun _ => []) (fun st => [(_, lst st)]) [] (iter_bytes rfl) (by k_asm) (by k_asm) (fun _ => rfl) trivial ?_ ?_ (fun x => x.elim)
  · intro i c v st h tk hc hz0 hr hS J oJ Q' E' F'' N'' hne hnext hbrk hret' _
    obtain ⟨u, rfl⟩ := hz0
    have := c.toNat_lt
    have hlen : st.length ≤ 999999 := by
      rw [hr.length, hexL_length, List.length_take]; omega
    k_extra "k_steps"
    refine str_item (n := c.toNat / 16) (c := (hx (c.toNat / 16)).toNat) sixteen_S (by rw [Int.fdiv_eq_ediv_of_nonneg _ (by decide)]; simp) (hx_at (by omega)) (by omega) fun t' k' => ?_
    k_extra "k_steps"
    have hJ : ∀ p ∈ [(J, oJ)] ++ [], p.1 ≠ _ := fun p hp e => by
      rw [List.append_nil, List.mem_singleton] at hp
      rw [hp] at e
      exact hne _ List.mem_cons_self e.symm
    refine append_L [(J, oJ)] [] (by k_asm) (by k_asm) hJ (by omega) fun h' F' N' hs => ?_
    k_extra "k_steps"
    refine str_item (n := c.toNat % 16) (c := (hx (c.toNat % 16)).toNat) sixteen_S (and15 (by omega)) (hx_at (by omega)) (by omega) fun t' k' => ?_
    k_extra "k_steps"
    refine append_L [(J, oJ)] [] (by k_asm) (by k_asm) hJ (by rw [List.length_append, List.length_singleton]; omega) fun h' F' N' hs => ?_
    k_extra "k_steps"
    refine hnext _ _ _ _ _ (.inl rfl) F' (by k_extra "kba_same") N' (fun p hp => by rw [List.mem_singleton.mp hp]; exact hne (_, lst st) List.mem_cons_self) stand_nil ?_
    rw [hexL_take (by simpa using hc)]
    rw [← List.append_assoc]
    exact Rel2.snoc ⟨_, rfl⟩ (Rel2.snoc ⟨_, rfl⟩ hr)
  · rintro st o h' tk' hr hS F'' N''
    k_extra "k_steps"
    have hr2 : Rel2 (fun (c : UInt8) y => TxtV [c.toNat] y) (hexL b) st := by
      have := hr
      rw [List.take_of_length_le (by simp)] at this
      exact this
    have hr' := hr2.map' (G' := TxtV) (fun c : UInt8 => [c.toNat]) (fun _ _ h => h)
    refine tjoin_L empty_S hr' (News.isList (by k_asm) (by k_mem)) (by rw [List.map_map]; show ((hexL b).map fun _ => 1).sum + 0 * _ ≤ _; rw [sum_ones, hexL_length]; omega) fun t' k' => ?_
    k_extra "k_steps"
    (try dsimp only)
    rw [joinL_nil, tx_flat]
    with_reducible exact hret _ [] _ _ (fr_stays (by assumption)) (List.forall_mem_nil _) ⟨rfl, _, rfl⟩
theorem skall : skP skc.1.w skc.1.mean skc.1.mg skc.1.mb skc.1.dp skc.1.un skc.1.gd skc.1.cn skc.1.cs skc.1.a skc.1.ccd skc.1.cl skc.1.outer skc.1.A₀ skc.1.base skc.1.h₀ skc.1.L skc.1.m skc.1.s skc.1.Q skc.1.E skc.2.1 skc.2.2.1 := by
  with_unfolding_all exact skmain
end hex_of_specK
theorem hex_of_spec {w : World} {mean : ExcName → Option Value} {mg mb : Str → Option Value} (b : List UInt8) (tb : Tok) (hb : b.length ≤ 100000) : Spec w mean mg mb 2 76 [.bytes b.toArray tb] (fun _ => True) (fun r tl => tl = [] ∧ TxtV (tx (hexL b)) r) False := by
  intro dp un gd cn cs a ccd cl outer A₀ base h₀ L m s Q E
  exact pick_spec (P := fun p : Cx × (List UInt8) × (Tok) × Unit => hex_of_specK.skP p.1.w p.1.mean p.1.mg p.1.mb p.1.dp p.1.un p.1.gd p.1.cn p.1.cs p.1.a p.1.ccd p.1.cl p.1.outer p.1.A₀ p.1.base p.1.h₀ p.1.L p.1.m p.1.s p.1.Q p.1.E p.2.1 p.2.2.1) hex_of_specK.skall (⟨w, mean, mg, mb, dp, un, gd, cn, cs, a, ccd, cl, outer, A₀, base, h₀, L, m, s, Q, E, default, default⟩, b, tb, ()) hb
end
section
variable {w : World} {mean : ExcName → Option Value} {mg mb : Str → Option Value}
end
end
section
set_option maxHeartbeats 4000000
section
variable {w : World} {mean : ExcName → Option Value} {mg mb : Str → Option Value}
theorem wire_hex_spec (b : List UInt8) (tb : Tok) (hb : b.length ≤ 100000) : Spec w mean mg mb 3 147 [.bytes b.toArray tb] (fun _ => True) (fun r tl => tl = [] ∧ BytV (hexL b) r) False := by
  intro dp un gd cn cs a ccd cl outer A₀ base h₀ L m s Q E B F X T hk hd hu hp hret hexc
  refine wpAny_call ?_
  k_dflt k_extra "cell_enter"
  k_extra "k_steps"
  refine Spec.use (hex_of_spec b _ hb) (by k_asm) (by k_asm) (by k_asm) (by k_asm) (by k_asm) rfl (by k_extra "ktr_room") (by k_extra "ktr_room") trivial ?_ (fun x => x.elim)
  rintro r tl h' tk' F' N' - - ⟨rfl, u, rfl⟩
  k_extra "k_steps"
  refine Spec.use (octets_of_spec (hexL b) _ (by rw [hexL_length]; omega)) (by k_asm) (by k_asm) (by k_asm) (by k_asm) (by k_asm) rfl (by k_extra "ktr_room") (by k_extra "ktr_room") trivial ?_ (fun x => x.elim)
  rintro r tl h' tk' F' N' - - ⟨rfl, u, rfl⟩
  k_extra "k_steps"
  (try dsimp only)
  with_reducible exact hret _ [] _ _ (fr_stays (by assumption)) (List.forall_mem_nil _) ⟨rfl, _, rfl⟩
end
end
section
set_option maxHeartbeats 4000000
section
variable {w : World} {mean : ExcName → Option Value} {mg mb : Str → Option Value}
/-- what a plain hex sign stands for -/
noncomputable def hv (c : Nat) : Nat := if c < 58 then c - 48 else c - 87
noncomputable def plainC (c : Nat) : Bool := (48 ≤ c && c ≤ 57) || (97 ≤ c && c ≤ 102)
theorem find_hex {c : Nat} (h : plainC c = true) : Txt.find (Str.ofString "0123456789abcdef") (S [c]) = (hv c : Int) := by
  have key : ∀ c < 128, plainC c = true → Txt.find (Str.ofString "0123456789abcdef") (S [c]) = (hv c : Int) := by decide +kernel
  refine key c ?_ h
  simp only [plainC, Bool.or_eq_true, Bool.and_eq_true, decide_eq_true_eq] at h
  omega
theorem hex_digit_spec (c : Nat) (tb : Tok) (hc : plainC c = true) : Spec w mean mg mb 2 83 [.str (S [c]) tb] (fun _ => True) (fun r tl => tl = [] ∧ ∃ u, r = .int (hv c : Int) u) False := by
  have hf := find_hex hc
  intro dp un gd cn cs a ccd cl outer A₀ base h₀ L m s Q E B F X T hk hd hu hp hret hexc
  refine wpAny_call ?_
  k_dflt k_extra "cell_enter"
  k_extra "k_steps"
  all_goals (try dsimp only)
  all_goals first
    | (exfalso; omega)
    | (rw [hf]; with_reducible exact hret _ [] _ _ (fr_stays (by assumption)) (List.forall_mem_nil _) ⟨rfl, _, rfl⟩)
theorem plain_spec (b : List UInt8) (tb un : Tok) (n : Nat) (hb : b.length ≤ 100000) : Spec w mean mg mb 2 97 [.bytes b.toArray tb, .int (n : Int) un] (fun _ => True) (fun r tl => tl = [] ∧ r = .bool (b.length == n && b.all fun c => plainC c.toNat)) False := by
  intro dp un gd cn cs a ccd cl outer A₀ base h₀ L m s Q E B F X T hk hd hu hp hret hexc
  refine wpAny_call ?_
  k_dflt k_extra "cell_enter"
  k_extra "k_steps"
  · dsimp only
    have h1 : (b.length == n && b.all fun c => plainC c.toNat) = false := by
      rw [Bool.and_eq_false_iff]; left
      simp; omega
    rw [h1] at hret
    with_reducible exact hret _ [] _ _ (fr_stays (by assumption)) (List.forall_mem_nil _) ⟨rfl, rfl⟩
  · refine for_rule (exc := False) (by k_asm) rfl rfl (by rfl) (by rfl) ?_
    k_extra "k_steps"
    refine ForGo.inv (σ := Unit) (fun i _ => (b.take i).all (fun c => plainC c.toNat) = true) (fun _ => []) (fun _ => []) () (iter_bytes rfl) (by k_asm) (by k_asm) (fun _ => rfl) rfl ?_ ?_ (fun x => x.elim)
    · intro i c v st h tk hc hz0 hI hS J oJ Q' E' F' N' hne hnext hbrk hret' _
      obtain ⟨u, rfl⟩ := hz0
      have := c.toNat_lt
      k_extra "k_steps"
      all_goals (try dsimp only)
      all_goals first
        | (have hp : plainC c.toNat = true := by simp only [plainC, Bool.or_eq_true, Bool.and_eq_true, decide_eq_true_eq]; omega
           refine hnext () _ _ _ _ (.inl rfl) (by assumption) (by k_extra "kba_same") (by assumption) hne stand_nil ?_
           rw [List.take_add_one, show b[i]? = some c by simpa using hc, List.all_append, hI]
           simpa using hp)
        | (have hp : ¬ (plainC c.toNat = true) := by simp only [plainC, Bool.or_eq_true, Bool.and_eq_true, decide_eq_true_eq]; omega
           have h1 : (b.length == n && b.all fun c => plainC c.toNat) = false := by
             rw [Bool.and_eq_false_iff]; right
             rw [List.all_eq_false]
             exact ⟨c, List.mem_of_getElem? (show b[i]? = some c by simpa using hc), hp⟩
           rw [h1] at hret
           refine hret' _ _ ?_
           dsimp only
           with_reducible exact hret _ [] _ _ (fr_stays (by assumption)) (List.forall_mem_nil _) ⟨rfl, rfl⟩)
    · rintro st o h' tk' hI hS F'' N''
      k_extra "k_steps"
      (try dsimp only)
      have h1 : (b.length == n && b.all fun c => plainC c.toNat) = true := by
        rw [List.take_of_length_le (by simp)] at hI
        rw [hI, Bool.and_true]; simp; omega
      rw [h1] at hret
      with_reducible exact hret _ [] _ _ (fr_stays (by assumption)) (List.forall_mem_nil _) ⟨rfl, rfl⟩
end
end
section
set_option maxHeartbeats 4000000
section
variable {w : World} {mean : ExcName → Option Value} {mg mb : Str → Option Value}
noncomputable def unhexL : List UInt8 → List UInt8
  | x :: y :: r => (16 * hv x.toNat + hv y.toNat).toUInt8 :: unhexL r
  | _ => []
theorem size2 (n : Nat) : Builtin.Range.rangeSize 0 ((2 * n : Nat) : Int) 2 = (n : Int) := by
  unfold Builtin.Range.rangeSize
  rw [if_pos (by decide)]
  split <;> omega
theorem small2 {n : Nat} (h : n ≤ 1000) : Builtin.Range.small 0 ((2 * n : Nat) : Int) 2 = true := by
  unfold Builtin.Range.small
  rw [size2 n]
  simp [Builtin.Range.rangeFitsLong]; omega
theorem unhexL_length : ∀ {b : List UInt8} {n : Nat} (_ : b.length = 2 * n), (unhexL b).length = n
  | [], 0, _ => rfl
  | [], n + 1, h => by simp at h
  | [_], n, h => by simp at h; omega
  | x :: y :: r, 0, h => by simp at h
  | x :: y :: r, n + 1, h => by
    rw [unhexL, List.length_cons, unhexL_length (n := n) (by simp at h; omega)]
theorem unhexL_take : ∀ {b : List UInt8} {k : Nat} {x y : UInt8} (_ : b[2 * k]? = some x) (_ : b[2 * k + 1]? = some y), unhexL (b.take (2 * (k + 1))) = unhexL (b.take (2 * k)) ++ [(16 * hv x.toNat + hv y.toNat).toUInt8]
  | [], k, x, y, h, _ => by simp at h
  | [a], 0, x, y, h, h2 => by simp at h2
  | [a], k + 1, x, y, h, _ => by simp at h
  | a :: c :: r, 0, x, y, h, h2 => by
    simp at h h2
    subst h h2
    simp [unhexL]
  | a :: c :: r, k + 1, x, y, h, h2 => by
    have e1 : 2 * (k + 1) = 2 * k + 2 := by omega
    have e2 : 2 * (k + 1 + 1) = 2 * (k + 1) + 2 := by omega
    have e3 : 2 * (k + 1) + 1 = 2 * k + 1 + 2 := by omega
    rw [e1] at h
    rw [e3] at h2
    have := unhexL_take (b := r) (k := k) (x := x) (y := y) (by simpa using h) (by simpa using h2)
    rw [e2, e1, List.take_succ_cons, List.take_succ_cons, List.take_succ_cons, List.take_succ_cons, unhexL, unhexL, ← e1, this]
    rfl
theorem hv_lt {c : Nat} (h : plainC c = true) : hv c < 16 := by
  simp only [plainC, Bool.or_eq_true, Bool.and_eq_true, decide_eq_true_eq] at h
  unfold hv
  split <;> omega
theorem oct_val {c d : Nat} (hc : plainC c = true) (hd : plainC d = true) : (((16 * hv c + hv d).toUInt8.toNat : Nat) : Int) = 16 * (hv c : Int) + (hv d : Int) := by
  have := hv_lt hc
  have := hv_lt hd
  have e : (16 * hv c + hv d).toUInt8.toNat = 16 * hv c + hv d := by
    simp; omega
  rw [e]; simp
end
section
namespace octets_of_hex_specK
noncomputable def skP (w : World) (mean : ExcName → Option Value) (mg : Str → Option Value) (mb : Str → Option Value) (dp : Nat) (un : Nat) (gd : Option (List Code)) (cn : Str) (cs : Scope) (a : Addr) (ccd : Value) (cl : List (Str × Addr)) (outer : List Env) (A₀ : Around) (base : Heap) (h₀ : Heap) (L : Addr) (m : Str → Option Value) (s : Shared) (Q : Value → Shared → Prop) (E : Value → Shared → Prop) (b : List UInt8) (tb : Tok) (n : Nat) : Prop :=
  (b.length = 2 * n) → (n ≤ 1000) → (∀ c ∈ b, plainC c.toNat = true) → SpecAt w mean mg mb dp un gd cn cs a ccd cl outer A₀ base h₀ L m s Q E 3 90 [.str (S (tx b)) tb] (fun _ => True) (fun r tl => tl = [] ∧ BytV (unhexL b) r) False
noncomputable def skc : Cx × (List UInt8) × (Tok) × (Nat) × Unit := pick ⟨(cx0, default, default, default, ())⟩ (fun p : Cx × (List UInt8) × (Tok) × (Nat) × Unit => skP p.1.w p.1.mean p.1.mg p.1.mb p.1.dp p.1.un p.1.gd p.1.cn p.1.cs p.1.a p.1.ccd p.1.cl p.1.outer p.1.A₀ p.1.base p.1.h₀ p.1.L p.1.m p.1.s p.1.Q p.1.E p.2.1 p.2.2.1 p.2.2.2.1)
@[irreducible] noncomputable def w : World := skc.1.w
@[irreducible] noncomputable def mean : ExcName → Option Value := skc.1.mean
@[irreducible] noncomputable def mg : Str → Option Value := skc.1.mg
@[irreducible] noncomputable def mb : Str → Option Value := skc.1.mb
@[irreducible] noncomputable def dp : Nat := skc.1.dp
@[irreducible] noncomputable def un : Nat := skc.1.un
@[irreducible] noncomputable def gd : Option (List Code) := skc.1.gd
@[irreducible] noncomputable def cn : Str := skc.1.cn
@[irreducible] noncomputable def cs : Scope := skc.1.cs
@[irreducible] noncomputable def a : Addr := skc.1.a
@[irreducible] noncomputable def ccd : Value := skc.1.ccd
@[irreducible] noncomputable def cl : List (Str × Addr) := skc.1.cl
@[irreducible] noncomputable def outer : List Env := skc.1.outer
@[irreducible] noncomputable def A₀ : Around := skc.1.A₀
@[irreducible] noncomputable def base : Heap := skc.1.base
@[irreducible] noncomputable def h₀ : Heap := skc.1.h₀
@[irreducible] noncomputable def L : Addr := skc.1.L
@[irreducible] noncomputable def m : Str → Option Value := skc.1.m
@[irreducible] noncomputable def s : Shared := skc.1.s
@[irreducible] noncomputable def Q : Value → Shared → Prop := skc.1.Q
@[irreducible] noncomputable def E : Value → Shared → Prop := skc.1.E
@[irreducible] noncomputable def b : List UInt8 := skc.2.1
@[irreducible] noncomputable def tb : Tok := skc.2.2.1
@[irreducible] noncomputable def n : Nat := skc.2.2.2.1
noncomputable def en : { P : Addr → Heap → Prop // (∀ L' h', P L' h') → skP w mean mg mb dp un gd cn cs a ccd cl outer A₀ base h₀ L m s Q E b tb n } :=
  ⟨_, by
  intro hP hb hn hpl B F X T hk hd hu hp hret hexc
  refine wpAny_call ?_
  k_dflt k_extra "enP"⟩
noncomputable def enc : Addr × Heap := pick ⟨default⟩ fun p => en.1 p.1 p.2
@[irreducible] noncomputable def L' : Addr := enc.1
@[irreducible] noncomputable def h' : Heap := enc.2
theorem enall (q : en.1 L' h') : ∀ a b, en.1 a b := by
  have q1 : (fun p : Addr × Heap => en.1 p.1 p.2) (pick ⟨default⟩ fun p => en.1 p.1 p.2) := by with_unfolding_all exact q
  exact fun a b => pick_spec (P := fun p : Addr × Heap => en.1 p.1 p.2) (ne := ⟨default⟩) q1 (a, b)
theorem skmain : skP w mean mg mb dp un gd cn cs a ccd cl outer A₀ base h₀ L m s Q E b tb n := by
  intro hb hn hpl B F X T hk hd hu hp hret hexc
  refine en.2 (enall ?_) hb hn hpl B F X T hk hd hu hp hret hexc
  intro _ _ _ _ _
  (try dsimp only)
  have hlen : (tx b).length ≤ 1099511627776 := by rw [tx, List.length_map]; omega
  have hlen2 : (tx b).length = 2 * n := by rw [tx, List.length_map]; omega
  have hmod : ((tx b).length : Int).fmod 2 = 0 := by rw [hlen2, Int.fmod_eq_emod_of_nonneg _ (by decide)]; omega
  k_extra "k_steps"
  · exfalso; omega
  · refine for_rule (exc := False) (by k_asm) rfl rfl (by rfl) (by rfl) ?_
    k_extra "k_steps"
    refine ForGo.inv (σ := List Value × Option Value × Option Value) (fun i st => Rel2 OctV (unhexL (b.take (2 * i))) st.1) (fun st => [(Str.ofString "high", st.2.1), (Str.ofString "low", st.2.2)]) (fun st => [(_, lst st.1)]) ([], none, none) (iter_range_by (n := n) rfl (by assumption) (by rw [hlen2]; exact small2 hn) (by rw [hlen2]; exact size2 n)) (by k_asm) (by k_asm) (ovr_cons rfl (ovr_cons rfl fun _ => rfl)) trivial ?_ ?_ (fun x => x.elim)
    · intro i k v; refine pr3 ?_
      intro st o1 o2 h tk hk hz0 hI hS J oJ Q' E' F' N' hne hnext hbrk hret' _
      obtain ⟨u, rfl⟩ := hz0
      dsimp only [ovr] at *
      obtain ⟨hin, rfl⟩ : i < n ∧ k = i := by
        rw [List.getElem?_eq_some_iff] at hk
        obtain ⟨h1, h2⟩ := hk
        rw [List.length_range] at h1
        rw [List.getElem_range] at h2
        exact ⟨h1, h2.symm⟩
      have hk1 : 2 * k + 1 < b.length := by omega
      obtain ⟨x, hx⟩ : ∃ x, b[2 * k]? = some x := ⟨b[2 * k], List.getElem?_eq_getElem _⟩
      obtain ⟨y, hy⟩ : ∃ y, b[2 * k + 1]? = some y := ⟨b[2 * k + 1], List.getElem?_eq_getElem _⟩
      k_extra "k_steps"
      refine str_item (n := 2 * k) (c := x.toNat) rfl (by omega) (by simp [tx, hx]) (by omega) fun t' k' => ?_
      k_extra "k_steps"
      refine Spec.use (hex_digit_spec x.toNat _ (hpl x (List.mem_of_getElem? hx))) (by k_asm) (by k_asm) (by k_asm) (by k_asm) (by k_asm) rfl (by k_extra "ktr_room") (by k_extra "ktr_room") trivial ?_ (fun x => x.elim)
      rintro r tl h' tk' F' N' hsep hst hst'
      obtain ⟨rfl, u1, rfl⟩ := hst'
      k_extra "k_steps"
      refine str_item (n := 2 * k + 1) (c := y.toNat) rfl (by omega) (by simp [tx, hy]) (by omega) fun t' k' => ?_
      k_extra "k_steps"
      refine Spec.use (hex_digit_spec y.toNat _ (hpl y (List.mem_of_getElem? hy))) (by k_asm) (by k_asm) (by k_asm) (by k_asm) (by k_asm) rfl (by k_extra "ktr_room") (by k_extra "ktr_room") trivial ?_ (fun x => x.elim)
      rintro r tl h' tk' F' N' hsep hst hst'
      obtain ⟨rfl, u2, rfl⟩ := hst'
      k_extra "k_steps"
      have hl2 : st.length ≤ 1000 := by rw [hI.length, unhexL_length (n := k) (by rw [List.length_take]; omega)]; omega
      refine append_L [(J, oJ)] [] (by k_asm) (by k_asm) (fun p hp e => ?_) (by omega) fun h' F' N' hs => ?_
      · rw [List.append_nil, List.mem_singleton] at hp
        rw [hp] at e
        exact hne _ List.mem_cons_self e.symm
      k_extra "k_steps"
      refine hnext (st ++ [Value.int (16 * (hv x.toNat : Int) + (hv y.toNat : Int)) _], some (Value.int (hv x.toNat : Int) u1), some (Value.int (hv y.toNat : Int) u2)) _ _ _ _ (.inl rfl) F' ?_ N' ?_ stand_nil ?_
      · intro z hz
        dsimp only [ovr, upd]
        have hnn : Str.ofString "low" ≠ Str.ofString "high" := by decide
        have hnn' : Str.ofString "high" ≠ Str.ofString "low" := by decide
        by_cases h1 : z = Str.ofString "high"
        · subst h1; simp [hnn']
        · simp only [h1, hz, if_false]
          by_cases h2 : z = Str.ofString "low"
          · rw [if_pos h2, if_pos h2]
          · rw [if_neg h2, if_neg h2, if_neg h2]
      · intro p hp
        rw [List.mem_singleton.mp hp]
        exact hne (_, lst st) List.mem_cons_self
      · show Rel2 OctV (unhexL (b.take (2 * (k + 1)))) _
        rw [unhexL_take hx hy]
        exact Rel2.snoc ⟨_, by rw [oct_val (hpl x (List.mem_of_getElem? hx)) (hpl y (List.mem_of_getElem? hy))]⟩ hI
    · refine pr3 ?_
      intro st o1 o2 o h' tk' hI hS F'' N''
      dsimp only [ovr] at *
      k_extra "k_steps"
      have hI' : Rel2 OctV (unhexL b) st := by
        rw [List.take_of_length_le (by simp; omega)] at hI
        exact hI
      refine bytes_of_list (by k_asm) (by k_asm) rfl (News.isList (by k_asm) (by k_mem)) hI' (by rw [unhexL_length hb]; omega) fun h' t' k' F' N' => ?_
      k_extra "k_steps"
      (try dsimp only); with_reducible exact hret _ [] _ _ (fr_stays (by assumption)) (List.forall_mem_nil _) ⟨rfl, _, rfl⟩
theorem skall : skP skc.1.w skc.1.mean skc.1.mg skc.1.mb skc.1.dp skc.1.un skc.1.gd skc.1.cn skc.1.cs skc.1.a skc.1.ccd skc.1.cl skc.1.outer skc.1.A₀ skc.1.base skc.1.h₀ skc.1.L skc.1.m skc.1.s skc.1.Q skc.1.E skc.2.1 skc.2.2.1 skc.2.2.2.1 := by
  with_unfolding_all exact skmain
end octets_of_hex_specK
theorem octets_of_hex_spec {w : World} {mean : ExcName → Option Value} {mg mb : Str → Option Value} (b : List UInt8) (tb : Tok) (n : Nat) (hb : b.length = 2 * n) (hn : n ≤ 1000) (hpl : ∀ c ∈ b, plainC c.toNat = true) : Spec w mean mg mb 3 90 [.str (S (tx b)) tb] (fun _ => True) (fun r tl => tl = [] ∧ BytV (unhexL b) r) False := by
  intro dp un gd cn cs a ccd cl outer A₀ base h₀ L m s Q E
  exact pick_spec (P := fun p : Cx × (List UInt8) × (Tok) × (Nat) × Unit => octets_of_hex_specK.skP p.1.w p.1.mean p.1.mg p.1.mb p.1.dp p.1.un p.1.gd p.1.cn p.1.cs p.1.a p.1.ccd p.1.cl p.1.outer p.1.A₀ p.1.base p.1.h₀ p.1.L p.1.m p.1.s p.1.Q p.1.E p.2.1 p.2.2.1 p.2.2.2.1) octets_of_hex_specK.skall (⟨w, mean, mg, mb, dp, un, gd, cn, cs, a, ccd, cl, outer, A₀, base, h₀, L, m, s, Q, E, default, default⟩, b, tb, n, ()) hb hn hpl
end
section
variable {w : World} {mean : ExcName → Option Value} {mg mb : Str → Option Value}
end
end
section
set_option maxHeartbeats 4000000
section
variable {w : World} {mean : ExcName → Option Value} {mg mb : Str → Option Value}
noncomputable def idOk (b : List UInt8) (n : Nat) : Bool := b.length == 2 * n && b.all fun c => plainC c.toNat
theorem idOk_len {b : List UInt8} {n : Nat} (h : idOk b n = true) : b.length = 2 * n := by
  simp only [idOk, Bool.and_eq_true, beq_iff_eq] at h; exact h.1
theorem idOk_all {b : List UInt8} {n : Nat} (h : idOk b n = true) : ∀ c ∈ b, plainC c.toNat = true := by
  simp only [idOk, Bool.and_eq_true, List.all_eq_true] at h; exact h.2
theorem wire_id_spec (b : List UInt8) (tb un : Tok) (n : Nat) (hb : b.length ≤ 100000) (hn : n ≤ 1000) : Spec w mean mg mb 4 140 [.bytes b.toArray tb, .int (n : Int) un] (fun _ => True) (fun r tl => tl = [] ∧ idOk b n = true ∧ BytV (unhexL b) r) (idOk b n = false) := by
  intro dp un gd cn cs a ccd cl outer A₀ base h₀ L m s Q E B F X T hk hd hu hp hret hexc
  refine wpAny_call ?_
  k_dflt k_extra "cell_enter"
  k_extra "k_steps"
  have e : (2 : Int) * (n : Int) = ((2 * n : Nat) : Int) := by omega
  rw [e]
  refine Spec.use (plain_spec b _ _ (2 * n) (by omega)) (by k_asm) (by k_asm) (by k_asm) (by k_asm) (by k_asm) rfl (by k_extra "ktr_room") (by k_extra "ktr_room") trivial ?_ (fun x => x.elim)
  rintro r tl h' tk' F' N' hsep hst hst'
  obtain ⟨rfl, rfl⟩ := hst'
  cases hok : (b.length == 2 * n && b.all fun c => plainC c.toNat) with
  | false =>
    k_extra "k_steps"
    have hok' : idOk b n = false := hok
    with_reducible refine hexc hok' _ _ _ (by assumption)
  | true =>
    k_extra "k_steps"
    refine Spec.use (text_of_spec b _ (by omega)) (by k_asm) (by k_asm) (by k_asm) (by k_asm) (by k_asm) rfl (by k_extra "ktr_room") (by k_extra "ktr_room") trivial ?_ (fun x => x.elim)
    rintro r tl h' tk' F' N' hsep hst hst'
    obtain ⟨rfl, u1, rfl⟩ := hst'
    k_extra "k_steps"
    refine Spec.use (octets_of_hex_spec b _ n (idOk_len hok) hn (idOk_all hok)) (by k_asm) (by k_asm) (by k_asm) (by k_asm) (by k_asm) rfl (by k_extra "ktr_room") (by k_extra "ktr_room") trivial ?_ (fun x => x.elim)
    rintro r tl h' tk' F' N' hsep hst hst'
    obtain ⟨rfl, u2, rfl⟩ := hst'
    k_extra "k_steps"
    have hok' : idOk b n = true := hok
    (try dsimp only)
    with_reducible exact hret _ [] _ _ (fr_stays (by assumption)) (List.forall_mem_nil _) ⟨rfl, hok', _, rfl⟩
end
end
section
set_option maxHeartbeats 4000000
section
variable {w : World} {mean : ExcName → Option Value} {mg mb : Str → Option Value}
noncomputable def figs (n : Nat) : List UInt8 := [hx (n / 4096), hx (n / 256 % 16), hx (n / 16 % 16), hx (n % 16)]
noncomputable def lineL (b : List UInt8) : List UInt8 := figs (b.length + 4) ++ b
theorem sig_at {k : Nat} (h : k < 16) : ([48, 49, 50, 51, 52, 53, 54, 55, 56, 57, 97, 98, 99, 100, 101, 102] : List UInt8)[k]? = some (hx k) := by
  revert h k; decide
theorem flush_spec (tb : Tok) : Spec w mean mg mb 2 104 [.int 0 tb] (fun _ => True) (fun r tl => tl = [] ∧ BytV [48, 48, 48, 48] r) False := by
  intro dp un gd cn cs a ccd cl outer A₀ base h₀ L m s Q E B F X T hk hd hu hp hret hexc
  refine wpAny_call ?_
  k_dflt k_extra "cell_enter"
  k_extra "k_steps"
  have e : (([48, 48, 48] : List UInt8) ++ cutL ([48, 49, 50, 51, 52, 53, 54, 55, 56, 57, 97, 98, 99, 100, 101, 102] : List UInt8) (some 0) (some (0 + 1))) = [48, 48, 48, 48] := by decide
  (try dsimp only)
  rw [e]
  (try dsimp only); with_reducible exact hret _ [] _ _ (fr_stays (by assumption)) (List.forall_mem_nil _) ⟨rfl, _, rfl⟩
end
section
namespace pkt_specK
noncomputable def skP (w : World) (mean : ExcName → Option Value) (mg : Str → Option Value) (mb : Str → Option Value) (dp : Nat) (un : Nat) (gd : Option (List Code)) (cn : Str) (cs : Scope) (a : Addr) (ccd : Value) (cl : List (Str × Addr)) (outer : List Env) (A₀ : Around) (base : Heap) (h₀ : Heap) (L : Addr) (m : Str → Option Value) (s : Shared) (Q : Value → Shared → Prop) (E : Value → Shared → Prop) (b : List UInt8) (tb : Tok) : Prop :=
  (b.length ≤ 65516) → SpecAt w mean mg mb dp un gd cn cs a ccd cl outer A₀ base h₀ L m s Q E 2 104 [.bytes b.toArray tb] (fun _ => True) (fun r tl => tl = [] ∧ BytV (lineL b) r) False
noncomputable def skc : Cx × (List UInt8) × (Tok) × Unit := pick ⟨(cx0, default, default, ())⟩ (fun p : Cx × (List UInt8) × (Tok) × Unit => skP p.1.w p.1.mean p.1.mg p.1.mb p.1.dp p.1.un p.1.gd p.1.cn p.1.cs p.1.a p.1.ccd p.1.cl p.1.outer p.1.A₀ p.1.base p.1.h₀ p.1.L p.1.m p.1.s p.1.Q p.1.E p.2.1 p.2.2.1)
@[irreducible] noncomputable def w : World := skc.1.w
@[irreducible] noncomputable def mean : ExcName → Option Value := skc.1.mean
@[irreducible] noncomputable def mg : Str → Option Value := skc.1.mg
@[irreducible] noncomputable def mb : Str → Option Value := skc.1.mb
@[irreducible] noncomputable def dp : Nat := skc.1.dp
@[irreducible] noncomputable def un : Nat := skc.1.un
@[irreducible] noncomputable def gd : Option (List Code) := skc.1.gd
@[irreducible] noncomputable def cn : Str := skc.1.cn
@[irreducible] noncomputable def cs : Scope := skc.1.cs
@[irreducible] noncomputable def a : Addr := skc.1.a
@[irreducible] noncomputable def ccd : Value := skc.1.ccd
@[irreducible] noncomputable def cl : List (Str × Addr) := skc.1.cl
@[irreducible] noncomputable def outer : List Env := skc.1.outer
@[irreducible] noncomputable def A₀ : Around := skc.1.A₀
@[irreducible] noncomputable def base : Heap := skc.1.base
@[irreducible] noncomputable def h₀ : Heap := skc.1.h₀
@[irreducible] noncomputable def L : Addr := skc.1.L
@[irreducible] noncomputable def m : Str → Option Value := skc.1.m
@[irreducible] noncomputable def s : Shared := skc.1.s
@[irreducible] noncomputable def Q : Value → Shared → Prop := skc.1.Q
@[irreducible] noncomputable def E : Value → Shared → Prop := skc.1.E
@[irreducible] noncomputable def b : List UInt8 := skc.2.1
@[irreducible] noncomputable def tb : Tok := skc.2.2.1
noncomputable def en : { P : Addr → Heap → Prop // (∀ L' h', P L' h') → skP w mean mg mb dp un gd cn cs a ccd cl outer A₀ base h₀ L m s Q E b tb } :=
  ⟨_, by
  intro hP hb B F X T hk hd hu hp hret hexc
  refine wpAny_call ?_
  k_dflt k_extra "enP"⟩
noncomputable def enc : Addr × Heap := pick ⟨default⟩ fun p => en.1 p.1 p.2
@[irreducible] noncomputable def L' : Addr := enc.1
@[irreducible] noncomputable def h' : Heap := enc.2
theorem enall (q : en.1 L' h') : ∀ a b, en.1 a b := by
  have q1 : (fun p : Addr × Heap => en.1 p.1 p.2) (pick ⟨default⟩ fun p => en.1 p.1 p.2) := by with_unfolding_all exact q
  exact fun a b => pick_spec (P := fun p : Addr × Heap => en.1 p.1 p.2) (ne := ⟨default⟩) q1 (a, b)
theorem skmain : skP w mean mg mb dp un gd cn cs a ccd cl outer A₀ base h₀ L m s Q E b tb := by
  intro hb B F X T hk hd hu hp hret hexc
  refine en.2 (enall ?_) hb B F X T hk hd hu hp hret hexc
  intro _ _ _ _ _
  (try dsimp only)
  k_extra "k_steps"
  all_goals try (exfalso; omega)
  refine byte_item (n := (b.length + 4) / 4096) (c := hx ((b.length + 4) / 4096)) (by rw [Int.fdiv_eq_ediv_of_nonneg _ (by decide)]; omega) (sig_at (by omega)) (by decide) fun t' k' => ?_
  k_extra "k_steps"
  refine byte_item (n := (b.length + 4) / 256 % 16) (c := hx ((b.length + 4) / 256 % 16)) (by rw [Int.fmod_eq_emod_of_nonneg _ (by decide), Int.fdiv_eq_ediv_of_nonneg _ (by decide)]; omega) (sig_at (by omega)) (by decide) fun t' k' => ?_
  k_extra "k_steps"
  refine byte_item (n := (b.length + 4) / 16 % 16) (c := hx ((b.length + 4) / 16 % 16)) (by rw [Int.fmod_eq_emod_of_nonneg _ (by decide), Int.fdiv_eq_ediv_of_nonneg _ (by decide)]; omega) (sig_at (by omega)) (by decide) fun t' k' => ?_
  k_extra "k_steps"
  refine byte_item (n := (b.length + 4) % 16) (c := hx ((b.length + 4) % 16)) (by rw [Int.fmod_eq_emod_of_nonneg _ (by decide)]; omega) (sig_at (by omega)) (by decide) fun t' k' => ?_
  k_extra "k_steps"
  refine bytes_of_list (vs := [_, _, _, _]) (l := figs (b.length + 4)) (by k_asm) (by k_asm) rfl (News.isList (by k_asm) List.mem_cons_self) ⟨⟨_, rfl⟩, ⟨_, rfl⟩, ⟨_, rfl⟩, ⟨_, rfl⟩, trivial⟩ (by show 4 ≤ _; omega) fun h' t' k' F' N' => ?_
  have hfl : (figs (b.length + 4)).length = 4 := rfl
  k_extra "k_steps"
  have e : figs (b.length + 4) ++ b = lineL b := rfl
  rw [e]
  (try dsimp only); with_reducible exact hret _ [] _ _ (fr_stays (by assumption)) (List.forall_mem_nil _) ⟨rfl, _, rfl⟩
theorem skall : skP skc.1.w skc.1.mean skc.1.mg skc.1.mb skc.1.dp skc.1.un skc.1.gd skc.1.cn skc.1.cs skc.1.a skc.1.ccd skc.1.cl skc.1.outer skc.1.A₀ skc.1.base skc.1.h₀ skc.1.L skc.1.m skc.1.s skc.1.Q skc.1.E skc.2.1 skc.2.2.1 := by
  with_unfolding_all exact skmain
end pkt_specK
theorem pkt_spec {w : World} {mean : ExcName → Option Value} {mg mb : Str → Option Value} (b : List UInt8) (tb : Tok) (hb : b.length ≤ 65516) : Spec w mean mg mb 2 104 [.bytes b.toArray tb] (fun _ => True) (fun r tl => tl = [] ∧ BytV (lineL b) r) False := by
  intro dp un gd cn cs a ccd cl outer A₀ base h₀ L m s Q E
  exact pick_spec (P := fun p : Cx × (List UInt8) × (Tok) × Unit => pkt_specK.skP p.1.w p.1.mean p.1.mg p.1.mb p.1.dp p.1.un p.1.gd p.1.cn p.1.cs p.1.a p.1.ccd p.1.cl p.1.outer p.1.A₀ p.1.base p.1.h₀ p.1.L p.1.m p.1.s p.1.Q p.1.E p.2.1 p.2.2.1) pkt_specK.skall (⟨w, mean, mg, mb, dp, un, gd, cn, cs, a, ccd, cl, outer, A₀, base, h₀, L, m, s, Q, E, default, default⟩, b, tb, ()) hb
end
section
variable {w : World} {mean : ExcName → Option Value} {mg mb : Str → Option Value}
end
end
section
set_option maxHeartbeats 4000000
section
variable {w : World} {mean : ExcName → Option Value} {mg mb : Str → Option Value}
theorem row_int_spec (k : Int) (tb : Tok) : Spec w mean mg mb 2 133 [.int k tb] (fun _ => True) (fun _ _ => False) True := by
  intro dp un gd cn cs a ccd cl outer A₀ base h₀ L m s Q E B F X T hk hd hu hp hret hexc
  refine wpAny_call ?_
  k_dflt k_extra "cell_enter"
  k_extra "k_steps"
  with_reducible refine hexc trivial _ _ _ (by assumption)
noncomputable def rowL (b : List UInt8) : List UInt8 := if b.drop (b.length - 1) = [10] then b.take (b.length - 1) else b
theorem row_spec (b : List UInt8) (tb : Tok) (hb : b.length ≤ 100000) : Spec w mean mg mb 2 133 [.bytes b.toArray tb] (fun _ => True) (fun r tl => tl = [] ∧ BytV (rowL b) r) False := by
  intro dp un gd cn cs a ccd cl outer A₀ base h₀ L m s Q E B F X T hk hd hu hp hret hexc
  refine wpAny_call ?_
  k_dflt k_extra "cell_enter"
  k_extra "k_steps"
  · have hq : (cutL b (some (-1)) none == [10]) = true := by assumption
    have e : rowL b = cutL b none (some (-1)) := by
      rw [cutL_last, beq_iff_eq] at hq
      rw [cutL_init, rowL, if_pos hq]
    rw [e] at hret
    (try dsimp only); with_reducible exact hret _ [] _ _ (fr_stays (by assumption)) (List.forall_mem_nil _) ⟨rfl, _, rfl⟩
  · have hq : (cutL b (some (-1)) none == [10]) = false := by assumption
    have e : rowL b = b := by
      rw [cutL_last, beq_eq_false_iff_ne] at hq
      rw [rowL, if_neg hq]
    rw [e] at hret
    (try dsimp only); with_reducible exact hret _ [] _ _ (fr_stays (by assumption)) (List.forall_mem_nil _) ⟨rfl, _, rfl⟩
end
end
section
set_option maxHeartbeats 4000000
section
variable {w : World} {mean : ExcName → Option Value} {mg mb : Str → Option Value}
noncomputable def figN (c : UInt8) : Option Nat :=
  let k := c.toNat
  if 48 ≤ k ∧ k ≤ 57 then some (k - 48) else if 97 ≤ k ∧ k ≤ 102 then some (k - 87) else if 65 ≤ k ∧ k ≤ 70 then some (k - 55) else none
theorem fig_N (c : UInt8) : fig (c.toNat : Int) = Option.map (fun n : Nat => (n : Int)) (figN c) := by
  unfold fig figN
  dsimp only
  by_cases h1 : 48 ≤ c.toNat ∧ c.toNat ≤ 57
  · rw [if_pos h1, if_pos (by omega)]; simp; omega
  · rw [if_neg h1, if_neg (by omega)]
    by_cases h2 : 97 ≤ c.toNat ∧ c.toNat ≤ 102
    · rw [if_pos h2, if_pos (by omega)]; simp; omega
    · rw [if_neg h2, if_neg (by omega)]
      by_cases h3 : 65 ≤ c.toNat ∧ c.toNat ≤ 70
      · rw [if_pos h3, if_pos (by omega)]; simp; omega
      · rw [if_neg h3, if_neg (by omega)]; rfl
noncomputable def numL : Nat → List UInt8 → Option Nat
  | a, [] => some a
  | a, c :: r => match figN c with
    | none => none
    | some v => numL (a * 16 + v) r
theorem numL_append (l r : List UInt8) : ∀ a, numL a (l ++ r) = (numL a l).bind fun b => numL b r := by
  induction l with
  | nil => intro a; rfl
  | cons c l ih =>
    intro a
    rw [List.cons_append, numL, numL]
    cases figN c with
    | none => rfl
    | some v => exact ih _
noncomputable abbrev Item := Nat ⊕ List UInt8
noncomputable def ItemV : Item → Value → Prop
  | .inl n, v => ∃ u, v = .int (n : Int) u
  | .inr l, v => BytV l v
noncomputable def wl (o : List UInt8) (p : Nat) : Option (Item × Nat) :=
  if p + 4 > o.length then none else
  match numL 0 ((o.drop p).take 4) with
  | none => none
  | some n => if n ≤ 2 then some (.inl n, p + 4) else if n = 3 then none else if n > 65520 then none else if p + n > o.length then none else some (.inr ((o.drop (p + 4)).take (n - 4)), p + n)
theorem one_new {h₀ h : Heap} {L : Addr} {p : Addr × Obj} {r : List (Addr × Obj)} (N : News h₀ L h (p :: r)) : ∀ q ∈ [p], h.get? q.1 = some q.2 ∧ h₀.get? q.1 = none := fun q hq => by
  rw [List.mem_singleton.mp hq]
  exact ⟨(N p List.mem_cons_self).1, (N p List.mem_cons_self).2.2⟩
theorem int_item {n : Nat} (t : Tok) : ItemV (.inl n) (.int (n : Int) t) := ⟨t, rfl⟩
theorem oct_item {l : List UInt8} (t : Tok) : ItemV (.inr l) (.bytes l.toArray t) := ⟨t, rfl⟩
end
section
namespace wire_line_specK
noncomputable def skP (w : World) (mean : ExcName → Option Value) (mg : Str → Option Value) (mb : Str → Option Value) (dp : Nat) (un : Nat) (gd : Option (List Code)) (cn : Str) (cs : Scope) (a : Addr) (ccd : Value) (cl : List (Str × Addr)) (outer : List Env) (A₀ : Around) (base : Heap) (h₀ : Heap) (L : Addr) (m : Str → Option Value) (s : Shared) (Q : Value → Shared → Prop) (E : Value → Shared → Prop) (o : List UInt8) (tb : Tok) (unT : Tok) (p : Nat) : Prop :=
  (o.length ≤ 1000000) → (p ≤ 1000000) → SpecAt w mean mg mb dp un gd cn cs a ccd cl outer A₀ base h₀ L m s Q E 3 118 [.bytes o.toArray tb, .int (p : Int) unT] (fun _ => True)
    (fun r tl => ∃ it p' t v q u, wl o p = some (it, p') ∧ ItemV it v ∧ q = (p' : Int) ∧ r = .ref t ∧ tl = [(t, { cls := .type "tuple", data := .seq #[v, .int q u] 0 })]) (wl o p = none)
noncomputable def skc : Cx × (List UInt8) × (Tok) × (Tok) × (Nat) × Unit := pick ⟨(cx0, default, default, default, default, ())⟩ (fun p : Cx × (List UInt8) × (Tok) × (Tok) × (Nat) × Unit => skP p.1.w p.1.mean p.1.mg p.1.mb p.1.dp p.1.un p.1.gd p.1.cn p.1.cs p.1.a p.1.ccd p.1.cl p.1.outer p.1.A₀ p.1.base p.1.h₀ p.1.L p.1.m p.1.s p.1.Q p.1.E p.2.1 p.2.2.1 p.2.2.2.1 p.2.2.2.2.1)
@[irreducible] noncomputable def w : World := skc.1.w
@[irreducible] noncomputable def mean : ExcName → Option Value := skc.1.mean
@[irreducible] noncomputable def mg : Str → Option Value := skc.1.mg
@[irreducible] noncomputable def mb : Str → Option Value := skc.1.mb
@[irreducible] noncomputable def dp : Nat := skc.1.dp
@[irreducible] noncomputable def un : Nat := skc.1.un
@[irreducible] noncomputable def gd : Option (List Code) := skc.1.gd
@[irreducible] noncomputable def cn : Str := skc.1.cn
@[irreducible] noncomputable def cs : Scope := skc.1.cs
@[irreducible] noncomputable def a : Addr := skc.1.a
@[irreducible] noncomputable def ccd : Value := skc.1.ccd
@[irreducible] noncomputable def cl : List (Str × Addr) := skc.1.cl
@[irreducible] noncomputable def outer : List Env := skc.1.outer
@[irreducible] noncomputable def A₀ : Around := skc.1.A₀
@[irreducible] noncomputable def base : Heap := skc.1.base
@[irreducible] noncomputable def h₀ : Heap := skc.1.h₀
@[irreducible] noncomputable def L : Addr := skc.1.L
@[irreducible] noncomputable def m : Str → Option Value := skc.1.m
@[irreducible] noncomputable def s : Shared := skc.1.s
@[irreducible] noncomputable def Q : Value → Shared → Prop := skc.1.Q
@[irreducible] noncomputable def E : Value → Shared → Prop := skc.1.E
@[irreducible] noncomputable def o : List UInt8 := skc.2.1
@[irreducible] noncomputable def tb : Tok := skc.2.2.1
@[irreducible] noncomputable def unT : Tok := skc.2.2.2.1
@[irreducible] noncomputable def p : Nat := skc.2.2.2.2.1
noncomputable def en : { P : Addr → Heap → Prop // (∀ L' h', P L' h') → skP w mean mg mb dp un gd cn cs a ccd cl outer A₀ base h₀ L m s Q E o tb unT p } :=
  ⟨_, by
  intro hP hb hp' B F X T hk hd hu hp hret hexc
  refine wpAny_call ?_
  k_dflt k_extra "enP"⟩
noncomputable def enc : Addr × Heap := pick ⟨default⟩ fun p => en.1 p.1 p.2
@[irreducible] noncomputable def L' : Addr := enc.1
@[irreducible] noncomputable def h' : Heap := enc.2
theorem enall (q : en.1 L' h') : ∀ a b, en.1 a b := by
  have q1 : (fun p : Addr × Heap => en.1 p.1 p.2) (pick ⟨default⟩ fun p => en.1 p.1 p.2) := by with_unfolding_all exact q
  exact fun a b => pick_spec (P := fun p : Addr × Heap => en.1 p.1 p.2) (ne := ⟨default⟩) q1 (a, b)
theorem skmain : skP w mean mg mb dp un gd cn cs a ccd cl outer A₀ base h₀ L m s Q E o tb unT p := by
  intro hb hp' B F X T hk hd hu hp hret hexc
  refine en.2 (enall ?_) hb hp' B F X T hk hd hu hp hret hexc
  intro _ _ _ _ _
  (try dsimp only)
  k_extra "k_steps"
  · have hn : wl o p = none := by unfold wl; rw [if_pos (by omega)]
    with_reducible refine hexc hn _ _ _ (by assumption)
  have hlen : ¬ p + 4 > o.length := by omega
  have e4 : cutL o (some (p : Int)) (some ((p : Int) + 4)) = (o.drop p).take 4 := by
    have := cutL_nat o p (p + 4)
    rw [show ((p + 4 : Nat) : Int) = (p : Int) + 4 by omega, show p + 4 - p = 4 by omega] at this
    exact this
  refine for_rule (exc := numL 0 ((o.drop p).take 4) = none) (by k_asm) rfl rfl (by rfl) (by rfl) ?_
  k_extra "k_steps"
  rw [e4]
  refine ForGo.inv (σ := Nat × Tok) (fun i st => numL 0 (((o.drop p).take 4).take i) = some st.1) (fun st => [(Str.ofString "length", some (.int (st.1 : Int) st.2))]) (fun _ => []) (0, _) (iter_bytes rfl) (by k_asm) (by k_asm) (ovr_cons rfl fun _ => rfl) rfl ?_ ?_ ?_
  · intro i c v; refine pr2 ?_
    intro n tn h tk hc hz0 hI hS J oJ Q' E' F' N' hne hnext hbrk hret' hexc'
    obtain ⟨u, rfl⟩ := hz0
    dsimp only [ovr] at *
    have hsnoc : numL 0 (((o.drop p).take 4).take (i + 1)) = (figN c).map fun v => n * 16 + v := by
      rw [List.take_add_one, show ((o.drop p).take 4)[i]? = some c by simpa using hc, numL_append, hI]
      show numL n [c] = _
      unfold numL
      cases figN c <;> rfl
    k_extra "k_steps"
    refine Spec.use (figure_spec (c.toNat : Int) _) (by k_asm) (by k_asm) (by k_asm) (by k_asm) (by k_asm) rfl (by k_extra "ktr_room") (by k_extra "ktr_room") trivial ?_ ?_
    · rintro r tl h' tk' F' N' hsep hst ⟨rfl, v, tv, hv, rfl⟩
      rw [fig_N] at hv
      obtain ⟨v', hv', rfl⟩ := Option.map_eq_some_iff.mp hv
      k_extra "k_steps"
      refine' hnext (n * 16 + v', ?tok) _ _ _ _ (.inl rfl) (by k_asm) ?_ (by k_asm) ?_ stand_nil ?_
      rotate_left
      · intro z hz
        dsimp only [ovr, upd]
        rw [show (((n * 16 + v' : Nat)) : Int) = (n : Int) * 16 + (v' : Int) by omega]
        by_cases h1 : z = Str.ofString "length"
        · rw [if_pos h1, if_pos h1]
        · simp only [h1, hz, if_false]
      · exact List.forall_mem_nil _
      · show numL 0 _ = _
        rw [hsnoc, hv']; rfl
    · intro hx e h' tk' R'
      refine hexc' ?_ _ _ _ _ _ (by k_asm) R'
      have hN : figN c = none := by rw [fig_N] at hx; exact Option.map_eq_none_iff.mp hx
      rw [hN] at hsnoc
      have h3 := numL_append (((o.drop p).take 4).take (i + 1)) (((o.drop p).take 4).drop (i + 1)) 0
      rw [List.take_append_drop, hsnoc] at h3
      exact h3
  · refine pr2 ?_
    intro n tn o' h' tk' hI hS F'' N''
    dsimp only [ovr] at *
    rw [List.take_of_length_le (by simp)] at hI
    (try dsimp only at hI)
    k_extra "k_steps"
    · have hn : wl o p = some (.inl n, p + 4) := by unfold wl; rw [if_neg hlen, hI]; dsimp only; rw [if_pos (by omega)]
      show Q (.ref _) _
      with_reducible refine hret _ [_] _ _ (fr_stays (by assumption)) (one_new (by assumption)) ⟨_, _, _, _, _, _, hn, int_item tn, by omega, rfl, rfl⟩
    · have hn : wl o p = none := by unfold wl; rw [if_neg hlen, hI]; dsimp only; rw [if_neg (by omega), if_pos (by omega)]
      with_reducible refine hexc hn _ _ _ (by assumption)
    · have hn : wl o p = none := by unfold wl; rw [if_neg hlen, hI]; dsimp only; rw [if_neg (by omega), if_neg (by omega), if_pos (by omega)]
      with_reducible refine hexc hn _ _ _ (by assumption)
    · have hn : wl o p = none := by unfold wl; rw [if_neg hlen, hI]; dsimp only; rw [if_neg (by omega), if_neg (by omega), if_neg (by omega), if_pos (by omega)]
      with_reducible refine hexc hn _ _ _ (by assumption)
    · have hn : wl o p = some (.inr ((o.drop (p + 4)).take (n - 4)), p + n) := by unfold wl; rw [if_neg hlen, hI]; dsimp only; rw [if_neg (by omega), if_neg (by omega), if_neg (by omega), if_neg (by omega)]
      have ecut : cutL o (some ((p : Int) + 4)) (some ((p : Int) + (n : Int))) = (o.drop (p + 4)).take (n - 4) := by
        have := cutL_nat o (p + 4) (p + n)
        rw [show ((p + 4 : Nat) : Int) = (p : Int) + 4 by omega, show ((p + n : Nat) : Int) = (p : Int) + (n : Int) by omega, show p + n - (p + 4) = n - 4 by omega] at this
        exact this
      show Q (.ref _) _
      with_reducible refine hret _ [_] _ _ (fr_stays (by assumption)) (one_new (by assumption)) ⟨_, _, _, _, _, _, hn, by rw [← ecut]; exact oct_item _, by omega, rfl, rfl⟩
  · intro hx ea hE mE h' tk' FE RE
    k_extra "k_steps"
    have hn : wl o p = none := by unfold wl; rw [if_neg hlen, hx]
    with_reducible refine hexc hn _ _ _ (by assumption)
theorem skall : skP skc.1.w skc.1.mean skc.1.mg skc.1.mb skc.1.dp skc.1.un skc.1.gd skc.1.cn skc.1.cs skc.1.a skc.1.ccd skc.1.cl skc.1.outer skc.1.A₀ skc.1.base skc.1.h₀ skc.1.L skc.1.m skc.1.s skc.1.Q skc.1.E skc.2.1 skc.2.2.1 skc.2.2.2.1 skc.2.2.2.2.1 := by
  with_unfolding_all exact skmain
end wire_line_specK
theorem wire_line_spec {w : World} {mean : ExcName → Option Value} {mg mb : Str → Option Value} (o : List UInt8) (tb unT : Tok) (p : Nat) (hb : o.length ≤ 1000000) (hp' : p ≤ 1000000) : Spec w mean mg mb 3 118 [.bytes o.toArray tb, .int (p : Int) unT] (fun _ => True)
    (fun r tl => ∃ it p' t v q u, wl o p = some (it, p') ∧ ItemV it v ∧ q = (p' : Int) ∧ r = .ref t ∧ tl = [(t, { cls := .type "tuple", data := .seq #[v, .int q u] 0 })]) (wl o p = none) := by
  intro dp un gd cn cs a ccd cl outer A₀ base h₀ L m s Q E
  exact pick_spec (P := fun p : Cx × (List UInt8) × (Tok) × (Tok) × (Nat) × Unit => wire_line_specK.skP p.1.w p.1.mean p.1.mg p.1.mb p.1.dp p.1.un p.1.gd p.1.cn p.1.cs p.1.a p.1.ccd p.1.cl p.1.outer p.1.A₀ p.1.base p.1.h₀ p.1.L p.1.m p.1.s p.1.Q p.1.E p.2.1 p.2.2.1 p.2.2.2.1 p.2.2.2.2.1) wire_line_specK.skall (⟨w, mean, mg, mb, dp, un, gd, cn, cs, a, ccd, cl, outer, A₀, base, h₀, L, m, s, Q, E, default, default⟩, o, tb, unT, p, ()) hb hp'
end
section
variable {w : World} {mean : ExcName → Option Value} {mg mb : Str → Option Value}
end
end
section
set_option maxHeartbeats 4000000
section
variable {w : World} {mean : ExcName → Option Value} {mg mb : Str → Option Value}
noncomputable def isEnd : Item → Bool
  | .inl n => n == 0 || n == 2
  | .inr _ => false
noncomputable def rpF : Nat → List UInt8 → Nat → Option (List Item × Nat)
  | 0, _, p => some ([], p)
  | f + 1, o, p => if p < o.length then
      match wl o p with
      | none => none
      | some (it, p') => if isEnd it then some ([it], p') else (rpF f o p').map fun r => (it :: r.1, r.2)
    else some ([], p)
noncomputable def rp (o : List UInt8) : Option (List Item × Nat) := rpF (o.length + 1) o 0
theorem wl_lt {o : List UInt8} {p : Nat} {it : Item} {p' : Nat} (h : wl o p = some (it, p')) : p + 4 ≤ p' ∧ p' ≤ o.length := by
  unfold wl at h
  split at h
  · cases h
  · split at h
    · cases h
    · split at h
      · cases h; omega
      · split at h
        · cases h
        · split at h
          · cases h
          · split at h
            · cases h
            · cases h; omega
theorem at_item : ¬ Str.ofString "item" = Str.ofString "at" := by decide
theorem two_new {h₀ h : Heap} {L : Addr} {p p2 : Addr × Obj} {r : List (Addr × Obj)} (N : News h₀ L h (p :: p2 :: r)) : ∀ q ∈ [p, p2], h.get? q.1 = some q.2 ∧ h₀.get? q.1 = none := fun q hq => by
  have hq' : q ∈ p :: p2 :: r := by
    rcases List.mem_cons.mp hq with rfl | hq
    · exact List.mem_cons_self
    · rw [List.mem_singleton.mp hq]; exact List.mem_cons_of_mem _ List.mem_cons_self
  exact ⟨(N q hq').1, (N q hq').2.2⟩
end
section
namespace read_pkts_specK
noncomputable def skP (w : World) (mean : ExcName → Option Value) (mg : Str → Option Value) (mb : Str → Option Value) (dp : Nat) (un : Nat) (gd : Option (List Code)) (cn : Str) (cs : Scope) (a : Addr) (ccd : Value) (cl : List (Str × Addr)) (outer : List Env) (A₀ : Around) (base : Heap) (h₀ : Heap) (L : Addr) (m : Str → Option Value) (s : Shared) (Q : Value → Shared → Prop) (E : Value → Shared → Prop) (o : List UInt8) (tb : Tok) : Prop :=
  (o.length ≤ 100000) → SpecAt w mean mg mb dp un gd cn cs a ccd cl outer A₀ base h₀ L m s Q E 4 126 [.bytes o.toArray tb] (fun _ => True)
    (fun r tl => ∃ its p' t D ys q u, rp o = some (its, p') ∧ Rel2 ItemV its ys ∧ q = (p' : Int) ∧ r = .ref t ∧ tl = [(t, { cls := .type "tuple", data := .seq #[.ref D, .int q u] 0 }), (D, lst ys)]) (rp o = none)
noncomputable def skc : Cx × (List UInt8) × (Tok) × Unit := pick ⟨(cx0, default, default, ())⟩ (fun p : Cx × (List UInt8) × (Tok) × Unit => skP p.1.w p.1.mean p.1.mg p.1.mb p.1.dp p.1.un p.1.gd p.1.cn p.1.cs p.1.a p.1.ccd p.1.cl p.1.outer p.1.A₀ p.1.base p.1.h₀ p.1.L p.1.m p.1.s p.1.Q p.1.E p.2.1 p.2.2.1)
@[irreducible] noncomputable def w : World := skc.1.w
@[irreducible] noncomputable def mean : ExcName → Option Value := skc.1.mean
@[irreducible] noncomputable def mg : Str → Option Value := skc.1.mg
@[irreducible] noncomputable def mb : Str → Option Value := skc.1.mb
@[irreducible] noncomputable def dp : Nat := skc.1.dp
@[irreducible] noncomputable def un : Nat := skc.1.un
@[irreducible] noncomputable def gd : Option (List Code) := skc.1.gd
@[irreducible] noncomputable def cn : Str := skc.1.cn
@[irreducible] noncomputable def cs : Scope := skc.1.cs
@[irreducible] noncomputable def a : Addr := skc.1.a
@[irreducible] noncomputable def ccd : Value := skc.1.ccd
@[irreducible] noncomputable def cl : List (Str × Addr) := skc.1.cl
@[irreducible] noncomputable def outer : List Env := skc.1.outer
@[irreducible] noncomputable def A₀ : Around := skc.1.A₀
@[irreducible] noncomputable def base : Heap := skc.1.base
@[irreducible] noncomputable def h₀ : Heap := skc.1.h₀
@[irreducible] noncomputable def L : Addr := skc.1.L
@[irreducible] noncomputable def m : Str → Option Value := skc.1.m
@[irreducible] noncomputable def s : Shared := skc.1.s
@[irreducible] noncomputable def Q : Value → Shared → Prop := skc.1.Q
@[irreducible] noncomputable def E : Value → Shared → Prop := skc.1.E
@[irreducible] noncomputable def o : List UInt8 := skc.2.1
@[irreducible] noncomputable def tb : Tok := skc.2.2.1
noncomputable def en : { P : Addr → Heap → Prop // (∀ L' h', P L' h') → skP w mean mg mb dp un gd cn cs a ccd cl outer A₀ base h₀ L m s Q E o tb } :=
  ⟨_, by
  intro hP hb B F X T hk hd hu hp hret hexc
  refine wpAny_call ?_
  k_dflt k_extra "enP"⟩
noncomputable def enc : Addr × Heap := pick ⟨default⟩ fun p => en.1 p.1 p.2
@[irreducible] noncomputable def L' : Addr := enc.1
@[irreducible] noncomputable def h' : Heap := enc.2
theorem enall (q : en.1 L' h') : ∀ a b, en.1 a b := by
  have q1 : (fun p : Addr × Heap => en.1 p.1 p.2) (pick ⟨default⟩ fun p => en.1 p.1 p.2) := by with_unfolding_all exact q
  exact fun a b => pick_spec (P := fun p : Addr × Heap => en.1 p.1 p.2) (ne := ⟨default⟩) q1 (a, b)
theorem skmain : skP w mean mg mb dp un gd cn cs a ccd cl outer A₀ base h₀ L m s Q E o tb := by
  intro hb B F X T hk hd hu hp hret hexc
  refine en.2 (enall ?_) hb B F X T hk hd hu hp hret hexc
  intro _ _ _ _ _
  (try dsimp only)
  k_extra "k_steps"
  refine while_inv (exc := rp o = none) (σ := List Item × List Value × Nat × Int × Tok × Option Value)
    (fun k st => rp o = (rpF k o st.2.2.1).map (fun r => (st.1 ++ r.1, r.2)) ∧ Rel2 ItemV st.1 st.2.1 ∧ st.2.2.2.1 = (st.2.2.1 : Int) ∧ o.length < k + st.2.2.1 ∧ st.2.2.1 ≤ o.length ∧ st.2.1.length ≤ st.2.2.1)
    (fun st => [(Str.ofString "at", some (.int st.2.2.2.1 st.2.2.2.2.1)), (Str.ofString "item", st.2.2.2.2.2)]) (fun st => [(_, lst st.2.1)])
    ([], [], 0, 0, _, none) (o.length + 1) rfl rfl (by k_asm) (by k_asm) (ovr_cons rfl (ovr_cons rfl fun _ => rfl)) ⟨?_, trivial, rfl, by simp, by simp, by simp⟩ ?_ ?_
  · show rp o = (rp o).map _
    cases rp o <;> rfl
  · intro k; refine pr6 ?_
    intro acc ys p q tq oi h tk hz1 F' N' Q' E' hnext hbrk hret' hexc'
    obtain ⟨i1, i2, i3, i4, i5, i6⟩ := hz1
    dsimp only [ovr] at *
    subst i3
    obtain ⟨k', rfl⟩ : ∃ k', k = k' + 1 := ⟨k - 1, by omega⟩
    k_extra "k_steps"
    · have hlt : p < o.length := by omega
      have hun : rpF (k' + 1) o p = match wl o p with
        | none => none
        | some (it, p') => if isEnd it then some ([it], p') else (rpF k' o p').map fun r => (it :: r.1, r.2) := by
        rw [rpF, if_pos hlt]
      refine Spec.use (wire_line_spec o _ _ p (by omega) (by omega)) (by k_asm) (by k_asm) (by k_asm) (by k_asm) (by k_asm) rfl (by k_extra "ktr_room") (by k_extra "ktr_room") trivial ?_ ?_
      · rintro r tl h' tk' F' N' hsep hst ⟨it, p', t, v, q, u, hw, hv, rfl, rfl, rfl⟩
        rw [hw] at hun
        dsimp only at hun
        rw [hun] at i1
        have hpp := wl_lt hw
        have hadd : ∀ x ∈ [(t, ({ cls := .type "tuple", data := .seq #[v, .int (p' : Int) u] 0 } : Obj))] ++ [], x.1 ≠ _ := fun x hx => by rw [List.append_nil] at hx; exact hsep x hx (_, lst ys) List.mem_cons_self
        have hrel : Rel2 ItemV (acc ++ [it]) (ys ++ [v]) := Rel2.snoc hv i2
        have hl2 : (ys ++ [v]).length ≤ p' := by rw [List.length_append, List.length_singleton]; omega
        have fin : isEnd it = true → rp o = some (acc ++ [it], p') := fun he => by rw [i1, if_pos he]; rfl
        have go : isEnd it = false → rp o = (rpF k' o p').map (fun r => ((acc ++ [it]) ++ r.1, r.2)) := fun he => by
          rw [i1, he, if_neg (by decide), Option.map_map]
          congr 1
          funext r
          simp
        cases it with
        | inl n =>
          obtain ⟨tn, rfl⟩ := hv
          k_extra "k_steps"
          refine append_L [_] [] (by k_asm) (by k_asm) hadd (by omega) fun h' F' N' hs => ?_
          have N'' := news_weak (l := [(_, lst (ys ++ [Value.int (n : Int) tn]))]) N' (fun x hx => List.mem_cons_of_mem _ hx)
          k_extra "k_steps"
          · dsimp only
            refine hbrk _ ?_
            (try dsimp only)
            k_extra "k_steps"
            have hfin := fin (by simp [isEnd]; omega)
            show Q (.ref _) _
            with_reducible refine hret _ [_, _] _ _ (fr_stays (by assumption)) (two_new (by assumption)) ⟨_, _, _, _, _, _, _, hfin, hrel, rfl, rfl, rfl⟩
          · dsimp only
            refine hbrk _ ?_
            (try dsimp only)
            k_extra "k_steps"
            have hfin := fin (by simp [isEnd]; omega)
            show Q (.ref _) _
            with_reducible refine hret _ [_, _] _ _ (fr_stays (by assumption)) (two_new (by assumption)) ⟨_, _, _, _, _, _, _, hfin, hrel, rfl, rfl, rfl⟩
          · refine hnext _ k' (acc ++ [.inl n], ys ++ [Value.int (n : Int) tn], p', (p' : Int), u, some (Value.int (n : Int) tn)) _ _ _ (.inl rfl) (by omega) (by k_asm) ?_ N'' ⟨go (by simp [isEnd]; omega), hrel, rfl, by show _ < k' + p'; omega, by show p' ≤ _; omega, hl2⟩
            intro z
            dsimp only [ovr, upd]
            by_cases h1 : z = Str.ofString "item"
            · subst h1; simp [at_item]
            · by_cases h2 : z = Str.ofString "at"
              · simp only [h1, h2, if_true, if_false]
              · simp only [h1, h2, if_false]
        | inr l =>
          obtain ⟨tn, rfl⟩ := hv
          k_extra "k_steps"
          refine append_L [_] [] (by k_asm) (by k_asm) hadd (by omega) fun h' F' N' hs => ?_
          have N'' := news_weak (l := [(_, lst (ys ++ [Value.bytes l.toArray tn]))]) N' (fun x hx => List.mem_cons_of_mem _ hx)
          k_extra "k_steps"
          refine hnext _ k' (acc ++ [.inr l], ys ++ [Value.bytes l.toArray tn], p', (p' : Int), u, some (Value.bytes l.toArray tn)) _ _ _ (.inl rfl) (by omega) (by k_asm) ?_ N'' ⟨go rfl, hrel, rfl, by show _ < k' + p'; omega, by show p' ≤ _; omega, hl2⟩
          intro z
          dsimp only [ovr, upd]
          by_cases h1 : z = Str.ofString "item"
          · subst h1; simp [at_item]
          · by_cases h2 : z = Str.ofString "at"
            · simp only [h1, h2, if_true, if_false]
            · simp only [h1, h2, if_false]
      · intro hx e h' tk' R'
        refine hexc' ?_ _ _ _ _ _ (by k_asm) R'
        rw [i1, hun, hx]; rfl
    · have hge : ¬ p < o.length := by omega
      rw [rpF, if_neg hge] at i1
      simp only [Option.map_some, List.append_nil] at i1
      show Q (.ref _) _
      with_reducible refine hret _ [_, _] _ _ (fr_stays (by assumption)) (two_new (by assumption)) ⟨_, _, _, _, _, _, _, i1, i2, rfl, rfl, rfl⟩
  · intro hx ea hE mE h' tk' FE RE
    k_extra "k_steps"
    with_reducible refine hexc hx _ _ _ (by assumption)
theorem skall : skP skc.1.w skc.1.mean skc.1.mg skc.1.mb skc.1.dp skc.1.un skc.1.gd skc.1.cn skc.1.cs skc.1.a skc.1.ccd skc.1.cl skc.1.outer skc.1.A₀ skc.1.base skc.1.h₀ skc.1.L skc.1.m skc.1.s skc.1.Q skc.1.E skc.2.1 skc.2.2.1 := by
  with_unfolding_all exact skmain
end read_pkts_specK
theorem read_pkts_spec {w : World} {mean : ExcName → Option Value} {mg mb : Str → Option Value} (o : List UInt8) (tb : Tok) (hb : o.length ≤ 100000) : Spec w mean mg mb 4 126 [.bytes o.toArray tb] (fun _ => True)
    (fun r tl => ∃ its p' t D ys q u, rp o = some (its, p') ∧ Rel2 ItemV its ys ∧ q = (p' : Int) ∧ r = .ref t ∧ tl = [(t, { cls := .type "tuple", data := .seq #[.ref D, .int q u] 0 }), (D, lst ys)]) (rp o = none) := by
  intro dp un gd cn cs a ccd cl outer A₀ base h₀ L m s Q E
  exact pick_spec (P := fun p : Cx × (List UInt8) × (Tok) × Unit => read_pkts_specK.skP p.1.w p.1.mean p.1.mg p.1.mb p.1.dp p.1.un p.1.gd p.1.cn p.1.cs p.1.a p.1.ccd p.1.cl p.1.outer p.1.A₀ p.1.base p.1.h₀ p.1.L p.1.m p.1.s p.1.Q p.1.E p.2.1 p.2.2.1) read_pkts_specK.skall (⟨w, mean, mg, mb, dp, un, gd, cn, cs, a, ccd, cl, outer, A₀, base, h₀, L, m, s, Q, E, default, default⟩, o, tb, ()) hb
end
section
variable {w : World} {mean : ExcName → Option Value} {mg mb : Str → Option Value}
end
end
section
set_option maxHeartbeats 4000000
section
variable {w : World} {mean : ExcName → Option Value} {mg mb : Str → Option Value}
theorem make_cmd_spec (v1 v2 v3 : Value) : Spec w mean mg mb 3 181 [v1, v2, v3] (fun _ => True) (fun r tl => ∃ c d k1 k2 k3, r = .ref c ∧ tl = [(c, instObj 181 d), (d, cmdD w k1 k2 k3 v1 v2 v3)]) False := by
  intro dp un gd cn cs a ccd cl outer A₀ base h₀ L m s Q E B F X T hk hd hu hp hret hexc
  refine wpAny_call ?_
  refine make_enter F X (by k_dflt k_is) (by k_dflt k_is) (by k_dflt k_is) fun x dx h' hkp hx hdx hne F₁ N₁ => ?_
  k_extra "ktr_enter"
  k_extra "k_steps"
  rename_i F' N'
  refine ⟨rfl, hret _ [_, _] _ _ (two_kept hkp hx hdx rfl F') (fun q hq => ⟨(N' q hq).1, ?_⟩) ⟨_, _, _, _, _, rfl, rfl⟩⟩
  rcases List.mem_cons.mp hq with rfl | hq
  · exact hx
  · rw [List.mem_singleton.mp hq]; exact hdx
end
section
namespace cmd_row_specK
noncomputable def skP (w : World) (mean : ExcName → Option Value) (mg : Str → Option Value) (mb : Str → Option Value) (dp : Nat) (un : Nat) (gd : Option (List Code)) (cn : Str) (cs : Scope) (a : Addr) (ccd : Value) (cl : List (Str × Addr)) (outer : List Env) (A₀ : Around) (base : Heap) (h₀ : Heap) (L : Addr) (m : Str → Option Value) (s : Shared) (Q : Value → Shared → Prop) (E : Value → Shared → Prop) (c : Addr) (d : Addr) (k1 : Tok) (k2 : Tok) (k3 : Tok) (t1 : Tok) (t2 : Tok) (t3 : Tok) (old : List UInt8) (new : List UInt8) (name : List UInt8) : Prop :=
  (old.length ≤ 1000) → (new.length ≤ 1000) → (name.length ≤ 1000) → SpecAt w mean mg mb dp un gd cn cs a ccd cl outer A₀ base h₀ L m s Q E 4 168 [.ref c]
    (Stand [(c, instObj 181 d), (d, cmdD w k1 k2 k3 (.bytes old.toArray t1) (.bytes new.toArray t2) (.str (S (tx name)) t3))])
    (fun r tl => tl = [] ∧ BytV (hexL old ++ [32] ++ hexL new ++ [32] ++ name) r) False
noncomputable def skc : Cx × (Addr) × (Addr) × (Tok) × (Tok) × (Tok) × (Tok) × (Tok) × (Tok) × (List UInt8) × (List UInt8) × (List UInt8) × Unit := pick ⟨(cx0, default, default, default, default, default, default, default, default, default, default, default, ())⟩ (fun p : Cx × (Addr) × (Addr) × (Tok) × (Tok) × (Tok) × (Tok) × (Tok) × (Tok) × (List UInt8) × (List UInt8) × (List UInt8) × Unit => skP p.1.w p.1.mean p.1.mg p.1.mb p.1.dp p.1.un p.1.gd p.1.cn p.1.cs p.1.a p.1.ccd p.1.cl p.1.outer p.1.A₀ p.1.base p.1.h₀ p.1.L p.1.m p.1.s p.1.Q p.1.E p.2.1 p.2.2.1 p.2.2.2.1 p.2.2.2.2.1 p.2.2.2.2.2.1 p.2.2.2.2.2.2.1 p.2.2.2.2.2.2.2.1 p.2.2.2.2.2.2.2.2.1 p.2.2.2.2.2.2.2.2.2.1 p.2.2.2.2.2.2.2.2.2.2.1 p.2.2.2.2.2.2.2.2.2.2.2.1)
@[irreducible] noncomputable def w : World := skc.1.w
@[irreducible] noncomputable def mean : ExcName → Option Value := skc.1.mean
@[irreducible] noncomputable def mg : Str → Option Value := skc.1.mg
@[irreducible] noncomputable def mb : Str → Option Value := skc.1.mb
@[irreducible] noncomputable def dp : Nat := skc.1.dp
@[irreducible] noncomputable def un : Nat := skc.1.un
@[irreducible] noncomputable def gd : Option (List Code) := skc.1.gd
@[irreducible] noncomputable def cn : Str := skc.1.cn
@[irreducible] noncomputable def cs : Scope := skc.1.cs
@[irreducible] noncomputable def a : Addr := skc.1.a
@[irreducible] noncomputable def ccd : Value := skc.1.ccd
@[irreducible] noncomputable def cl : List (Str × Addr) := skc.1.cl
@[irreducible] noncomputable def outer : List Env := skc.1.outer
@[irreducible] noncomputable def A₀ : Around := skc.1.A₀
@[irreducible] noncomputable def base : Heap := skc.1.base
@[irreducible] noncomputable def h₀ : Heap := skc.1.h₀
@[irreducible] noncomputable def L : Addr := skc.1.L
@[irreducible] noncomputable def m : Str → Option Value := skc.1.m
@[irreducible] noncomputable def s : Shared := skc.1.s
@[irreducible] noncomputable def Q : Value → Shared → Prop := skc.1.Q
@[irreducible] noncomputable def E : Value → Shared → Prop := skc.1.E
@[irreducible] noncomputable def c : Addr := skc.2.1
@[irreducible] noncomputable def d : Addr := skc.2.2.1
@[irreducible] noncomputable def k1 : Tok := skc.2.2.2.1
@[irreducible] noncomputable def k2 : Tok := skc.2.2.2.2.1
@[irreducible] noncomputable def k3 : Tok := skc.2.2.2.2.2.1
@[irreducible] noncomputable def t1 : Tok := skc.2.2.2.2.2.2.1
@[irreducible] noncomputable def t2 : Tok := skc.2.2.2.2.2.2.2.1
@[irreducible] noncomputable def t3 : Tok := skc.2.2.2.2.2.2.2.2.1
@[irreducible] noncomputable def old : List UInt8 := skc.2.2.2.2.2.2.2.2.2.1
@[irreducible] noncomputable def new : List UInt8 := skc.2.2.2.2.2.2.2.2.2.2.1
@[irreducible] noncomputable def name : List UInt8 := skc.2.2.2.2.2.2.2.2.2.2.2.1
noncomputable def en : { P : Addr → Heap → Prop // (∀ L' h', P L' h') → skP w mean mg mb dp un gd cn cs a ccd cl outer A₀ base h₀ L m s Q E c d k1 k2 k3 t1 t2 t3 old new name } :=
  ⟨_, by
  intro hP h1 h2 h3 B F X T hk hd hu hp hret hexc
  refine wpAny_call ?_
  k_dflt k_extra "enP"⟩
noncomputable def enc : Addr × Heap := pick ⟨default⟩ fun p => en.1 p.1 p.2
@[irreducible] noncomputable def L' : Addr := enc.1
@[irreducible] noncomputable def h' : Heap := enc.2
theorem enall (q : en.1 L' h') : ∀ a b, en.1 a b := by
  have q1 : (fun p : Addr × Heap => en.1 p.1 p.2) (pick ⟨default⟩ fun p => en.1 p.1 p.2) := by with_unfolding_all exact q
  exact fun a b => pick_spec (P := fun p : Addr × Heap => en.1 p.1 p.2) (ne := ⟨default⟩) q1 (a, b)
theorem skmain : skP w mean mg mb dp un gd cn cs a ccd cl outer A₀ base h₀ L m s Q E c d k1 k2 k3 t1 t2 t3 old new name := by
  intro h1 h2 h3 B F X T hk hd hu hp hret hexc
  refine en.2 (enall ?_) h1 h2 h3 B F X T hk hd hu hp hret hexc
  intro _ _ _ _ _
  (try dsimp only)
  have l1 := hexL_length old
  have l2 := hexL_length new
  k_extra "k_steps"
  refine Spec.use (wire_hex_spec old _ (by omega)) (by k_asm) (by k_asm) (by k_asm) (by k_asm) (by k_asm) rfl (by k_extra "ktr_room") (by k_extra "ktr_room") trivial ?_ (fun x => x.elim)
  rintro r tl h' tk' F' N' hsep hst hst'
  obtain ⟨rfl, u1, rfl⟩ := hst'
  k_extra "k_steps"
  refine Spec.use (wire_hex_spec new _ (by omega)) (by k_asm) (by k_asm) (by k_asm) (by k_asm) (by k_asm) rfl (by k_extra "ktr_room") (by k_extra "ktr_room") trivial ?_ (fun x => x.elim)
  rintro r tl h' tk' F' N' hsep hst hst'
  obtain ⟨rfl, u2, rfl⟩ := hst'
  k_extra "k_steps"
  refine Spec.use (octets_of_spec name _ (by omega)) (by k_asm) (by k_asm) (by k_asm) (by k_asm) (by k_asm) rfl (by k_extra "ktr_room") (by k_extra "ktr_room") trivial ?_ (fun x => x.elim)
  rintro r tl h' tk' F' N' hsep hst hst'
  obtain ⟨rfl, u3, rfl⟩ := hst'
  k_extra "k_steps"
  (try dsimp only); with_reducible exact hret _ [] _ _ (fr_stays (by assumption)) (List.forall_mem_nil _) ⟨rfl, _, rfl⟩
theorem skall : skP skc.1.w skc.1.mean skc.1.mg skc.1.mb skc.1.dp skc.1.un skc.1.gd skc.1.cn skc.1.cs skc.1.a skc.1.ccd skc.1.cl skc.1.outer skc.1.A₀ skc.1.base skc.1.h₀ skc.1.L skc.1.m skc.1.s skc.1.Q skc.1.E skc.2.1 skc.2.2.1 skc.2.2.2.1 skc.2.2.2.2.1 skc.2.2.2.2.2.1 skc.2.2.2.2.2.2.1 skc.2.2.2.2.2.2.2.1 skc.2.2.2.2.2.2.2.2.1 skc.2.2.2.2.2.2.2.2.2.1 skc.2.2.2.2.2.2.2.2.2.2.1 skc.2.2.2.2.2.2.2.2.2.2.2.1 := by
  with_unfolding_all exact skmain
end cmd_row_specK
theorem cmd_row_spec {w : World} {mean : ExcName → Option Value} {mg mb : Str → Option Value} (c d : Addr) (k1 k2 k3 t1 t2 t3 : Tok) (old new name : List UInt8) (h1 : old.length ≤ 1000) (h2 : new.length ≤ 1000) (h3 : name.length ≤ 1000) : Spec w mean mg mb 4 168 [.ref c]
    (Stand [(c, instObj 181 d), (d, cmdD w k1 k2 k3 (.bytes old.toArray t1) (.bytes new.toArray t2) (.str (S (tx name)) t3))])
    (fun r tl => tl = [] ∧ BytV (hexL old ++ [32] ++ hexL new ++ [32] ++ name) r) False := by
  intro dp un gd cn cs a ccd cl outer A₀ base h₀ L m s Q E
  exact pick_spec (P := fun p : Cx × (Addr) × (Addr) × (Tok) × (Tok) × (Tok) × (Tok) × (Tok) × (Tok) × (List UInt8) × (List UInt8) × (List UInt8) × Unit => cmd_row_specK.skP p.1.w p.1.mean p.1.mg p.1.mb p.1.dp p.1.un p.1.gd p.1.cn p.1.cs p.1.a p.1.ccd p.1.cl p.1.outer p.1.A₀ p.1.base p.1.h₀ p.1.L p.1.m p.1.s p.1.Q p.1.E p.2.1 p.2.2.1 p.2.2.2.1 p.2.2.2.2.1 p.2.2.2.2.2.1 p.2.2.2.2.2.2.1 p.2.2.2.2.2.2.2.1 p.2.2.2.2.2.2.2.2.1 p.2.2.2.2.2.2.2.2.2.1 p.2.2.2.2.2.2.2.2.2.2.1 p.2.2.2.2.2.2.2.2.2.2.2.1) cmd_row_specK.skall (⟨w, mean, mg, mb, dp, un, gd, cn, cs, a, ccd, cl, outer, A₀, base, h₀, L, m, s, Q, E, default, default⟩, c, d, k1, k2, k3, t1, t2, t3, old, new, name, ()) h1 h2 h3
end
section
variable {w : World} {mean : ExcName → Option Value} {mg mb : Str → Option Value}
end
end
section
set_option maxHeartbeats 4000000
section
variable {w : World} {mean : ExcName → Option Value} {mg mb : Str → Option Value}
noncomputable abbrev Cmd := List UInt8 × List UInt8 × List UInt8
noncomputable def rd (row : List UInt8) (n : Nat) : Option Cmd :=
  if (row.drop (2 * n)).take 1 ≠ [32] ∨ (row.drop (4 * n + 1)).take 1 ≠ [32] ∨ row.drop (4 * n + 2) = [] then none
  else if idOk (row.take (2 * n)) n = true ∧ idOk ((row.drop (2 * n + 1)).take (2 * n)) n = true then
    some (unhexL (row.take (2 * n)), unhexL ((row.drop (2 * n + 1)).take (2 * n)), row.drop (4 * n + 2))
  else none
theorem cutL_at {α : Type} {l : List α} {x y : Int} {a b : Nat} (hx : x = (a : Int)) (hy : y = (b : Int)) : cutL l (some x) (some y) = (l.drop a).take (b - a) := by subst hx hy; exact cutL_nat _ _ _
theorem cutL_fr {α : Type} {l : List α} {x : Int} {a : Nat} (hx : x = (a : Int)) : cutL l (some x) none = l.drop a := by subst hx; exact cutL_from _ _
theorem cutL_up {α : Type} {l : List α} {x : Int} {a : Nat} (hx : x = (a : Int)) : cutL l none (some x) = l.take a := by subst hx; exact cutL_to _ _
end
section
namespace cmd_read_specK
noncomputable def skP (w : World) (mean : ExcName → Option Value) (mg : Str → Option Value) (mb : Str → Option Value) (dp : Nat) (un : Nat) (gd : Option (List Code)) (cn : Str) (cs : Scope) (a : Addr) (ccd : Value) (cl : List (Str × Addr)) (outer : List Env) (A₀ : Around) (base : Heap) (h₀ : Heap) (L : Addr) (m : Str → Option Value) (s : Shared) (Q : Value → Shared → Prop) (E : Value → Shared → Prop) (row : List UInt8) (tb : Tok) (unT : Tok) (n : Nat) : Prop :=
  (row.length ≤ 100000) → (n ≤ 1000) → SpecAt w mean mg mb dp un gd cn cs a ccd cl outer A₀ base h₀ L m s Q E 5 175 [.bytes row.toArray tb, .int (n : Int) unT] (fun _ => True)
    (fun r tl => ∃ o nw nm c d k1 k2 k3 t1 t2 t3, rd row n = some (o, nw, nm) ∧ r = .ref c ∧ tl = [(c, instObj 181 d), (d, cmdD w k1 k2 k3 (.bytes o.toArray t1) (.bytes nw.toArray t2) (.str (S (tx nm)) t3))]) (rd row n = none)
noncomputable def skc : Cx × (List UInt8) × (Tok) × (Tok) × (Nat) × Unit := pick ⟨(cx0, default, default, default, default, ())⟩ (fun p : Cx × (List UInt8) × (Tok) × (Tok) × (Nat) × Unit => skP p.1.w p.1.mean p.1.mg p.1.mb p.1.dp p.1.un p.1.gd p.1.cn p.1.cs p.1.a p.1.ccd p.1.cl p.1.outer p.1.A₀ p.1.base p.1.h₀ p.1.L p.1.m p.1.s p.1.Q p.1.E p.2.1 p.2.2.1 p.2.2.2.1 p.2.2.2.2.1)
@[irreducible] noncomputable def w : World := skc.1.w
@[irreducible] noncomputable def mean : ExcName → Option Value := skc.1.mean
@[irreducible] noncomputable def mg : Str → Option Value := skc.1.mg
@[irreducible] noncomputable def mb : Str → Option Value := skc.1.mb
@[irreducible] noncomputable def dp : Nat := skc.1.dp
@[irreducible] noncomputable def un : Nat := skc.1.un
@[irreducible] noncomputable def gd : Option (List Code) := skc.1.gd
@[irreducible] noncomputable def cn : Str := skc.1.cn
@[irreducible] noncomputable def cs : Scope := skc.1.cs
@[irreducible] noncomputable def a : Addr := skc.1.a
@[irreducible] noncomputable def ccd : Value := skc.1.ccd
@[irreducible] noncomputable def cl : List (Str × Addr) := skc.1.cl
@[irreducible] noncomputable def outer : List Env := skc.1.outer
@[irreducible] noncomputable def A₀ : Around := skc.1.A₀
@[irreducible] noncomputable def base : Heap := skc.1.base
@[irreducible] noncomputable def h₀ : Heap := skc.1.h₀
@[irreducible] noncomputable def L : Addr := skc.1.L
@[irreducible] noncomputable def m : Str → Option Value := skc.1.m
@[irreducible] noncomputable def s : Shared := skc.1.s
@[irreducible] noncomputable def Q : Value → Shared → Prop := skc.1.Q
@[irreducible] noncomputable def E : Value → Shared → Prop := skc.1.E
@[irreducible] noncomputable def row : List UInt8 := skc.2.1
@[irreducible] noncomputable def tb : Tok := skc.2.2.1
@[irreducible] noncomputable def unT : Tok := skc.2.2.2.1
@[irreducible] noncomputable def n : Nat := skc.2.2.2.2.1
noncomputable def en : { P : Addr → Heap → Prop // (∀ L' h', P L' h') → skP w mean mg mb dp un gd cn cs a ccd cl outer A₀ base h₀ L m s Q E row tb unT n } :=
  ⟨_, by
  intro hP hb hn B F X T hk hd hu hp hret hexc
  refine wpAny_call ?_
  k_dflt k_extra "enP"⟩
noncomputable def enc : Addr × Heap := pick ⟨default⟩ fun p => en.1 p.1 p.2
@[irreducible] noncomputable def L' : Addr := enc.1
@[irreducible] noncomputable def h' : Heap := enc.2
theorem enall (q : en.1 L' h') : ∀ a b, en.1 a b := by
  have q1 : (fun p : Addr × Heap => en.1 p.1 p.2) (pick ⟨default⟩ fun p => en.1 p.1 p.2) := by with_unfolding_all exact q
  exact fun a b => pick_spec (P := fun p : Addr × Heap => en.1 p.1 p.2) (ne := ⟨default⟩) q1 (a, b)
theorem skmain : skP w mean mg mb dp un gd cn cs a ccd cl outer A₀ base h₀ L m s Q E row tb unT n := by
  intro hb hn B F X T hk hd hu hp hret hexc
  refine en.2 (enall ?_) hb hn B F X T hk hd hu hp hret hexc
  intro _ _ _ _ _
  (try dsimp only)
  have e1 : cutL row (some (2 * (n : Int))) (some (2 * (n : Int) + 1)) = (row.drop (2 * n)).take 1 := by rw [cutL_at (a := 2 * n) (b := 2 * n + 1) (by omega) (by omega)]; congr 1; omega
  have e2 : cutL row (some (4 * (n : Int) + 1)) (some (4 * (n : Int) + 2)) = (row.drop (4 * n + 1)).take 1 := by rw [cutL_at (a := 4 * n + 1) (b := 4 * n + 2) (by omega) (by omega)]; congr 1; omega
  have e3 : cutL row (some (4 * (n : Int) + 2)) none = row.drop (4 * n + 2) := cutL_fr (by omega)
  have e4 : cutL row none (some (2 * (n : Int))) = row.take (2 * n) := cutL_up (by omega)
  have e5 : cutL row (some (2 * (n : Int) + 1)) (some (4 * (n : Int) + 1)) = (row.drop (2 * n + 1)).take (2 * n) := by rw [cutL_at (a := 2 * n + 1) (b := 4 * n + 1) (by omega) (by omega)]; congr 1; omega
  k_extra "k_steps"
  · have hq : (cutL row (some (2 * (n : Int))) (some (2 * (n : Int) + 1)) != [32]) = true := by assumption
    rw [e1, bne_iff_ne] at hq
    have hn : rd row n = none := by rw [rd, if_pos (.inl hq)]
    with_reducible refine hexc hn _ _ _ (by assumption)
  · have hq : (cutL row (some (4 * (n : Int) + 1)) (some (4 * (n : Int) + 2)) != [32]) = true := by assumption
    rw [e2, bne_iff_ne] at hq
    have hn : rd row n = none := by rw [rd, if_pos (.inr (.inl hq))]
    with_reducible refine hexc hn _ _ _ (by assumption)
  · have hq : (cutL row (some (4 * (n : Int) + 2)) none == []) = true := by assumption
    rw [e3, beq_iff_eq] at hq
    have hn : rd row n = none := by rw [rd, if_pos (.inr (.inr hq))]
    with_reducible refine hexc hn _ _ _ (by assumption)
  · have q1 : (cutL row (some (2 * (n : Int))) (some (2 * (n : Int) + 1)) != [32]) = false := by assumption
    have q2 : (cutL row (some (4 * (n : Int) + 1)) (some (4 * (n : Int) + 2)) != [32]) = false := by assumption
    have q3 : (cutL row (some (4 * (n : Int) + 2)) none == []) = false := by assumption
    rw [e1, bne_eq_false_iff_eq] at q1
    rw [e2, bne_eq_false_iff_eq] at q2
    rw [e3, beq_eq_false_iff_ne] at q3
    have hrd : rd row n = if idOk (row.take (2 * n)) n = true ∧ idOk ((row.drop (2 * n + 1)).take (2 * n)) n = true then
      some (unhexL (row.take (2 * n)), unhexL ((row.drop (2 * n + 1)).take (2 * n)), row.drop (4 * n + 2)) else none := by
      rw [rd, if_neg (by rintro (h | h | h); exact h q1; exact h q2; exact q3 h)]
    rw [e4]
    refine Spec.use (wire_id_spec (row.take (2 * n)) _ _ n (by rw [List.length_take]; omega) hn) (by k_asm) (by k_asm) (by k_asm) (by k_asm) (by k_asm) rfl (by k_extra "ktr_room") (by k_extra "ktr_room") trivial ?_ ?_
    · rintro r tl h' tk' F' N' hsep hst ⟨rfl, hok1, u1, rfl⟩
      k_extra "k_steps"
      rw [e5]
      refine Spec.use (wire_id_spec ((row.drop (2 * n + 1)).take (2 * n)) _ _ n (by rw [List.length_take, List.length_drop]; omega) hn) (by k_asm) (by k_asm) (by k_asm) (by k_asm) (by k_asm) rfl (by k_extra "ktr_room") (by k_extra "ktr_room") trivial ?_ ?_
      · rintro r tl h' tk' F' N' hsep hst ⟨rfl, hok2, u2, rfl⟩
        k_extra "k_steps"
        rw [e3]
        refine Spec.use (text_of_spec (row.drop (4 * n + 2)) _ (by rw [List.length_drop]; omega)) (by k_asm) (by k_asm) (by k_asm) (by k_asm) (by k_asm) rfl (by k_extra "ktr_room") (by k_extra "ktr_room") trivial ?_ (fun x => x.elim)
        rintro r tl h' tk' F' N' hsep hst hst'
        obtain ⟨rfl, u3, rfl⟩ := hst'
        k_extra "k_steps"
        refine Spec.use (make_cmd_spec _ _ _) (by k_asm) (by k_asm) (by k_asm) (by k_asm) (by k_asm) rfl (by k_extra "ktr_room") (by k_extra "ktr_room") trivial ?_ (fun x => x.elim)
        rintro r tl h' tk' F' N' hsep hst hst'
        obtain ⟨c, d, k1, k2, k3, rfl, rfl⟩ := hst'
        have hnew := two_new N'
        k_extra "k_steps"
        (try dsimp only)
        have hn : rd row n = some (unhexL (row.take (2 * n)), unhexL ((row.drop (2 * n + 1)).take (2 * n)), row.drop (4 * n + 2)) := by rw [hrd, if_pos ⟨hok1, hok2⟩]
        with_reducible exact hret _ [_, _] _ _ (fr_stays (by assumption)) hnew ⟨_, _, _, _, _, _, _, _, _, _, _, hn, rfl, rfl⟩
      · intro hx e h' tk' R'
        k_extra "k_steps"
        have hn : rd row n = none := by rw [hrd, if_neg (by rw [hx]; simp)]
        with_reducible refine hexc hn _ _ _ (by assumption)
    · intro hx e h' tk' R'
      k_extra "k_steps"
      have hn : rd row n = none := by rw [hrd, if_neg (by rw [hx]; simp)]
      with_reducible refine hexc hn _ _ _ (by assumption)
theorem skall : skP skc.1.w skc.1.mean skc.1.mg skc.1.mb skc.1.dp skc.1.un skc.1.gd skc.1.cn skc.1.cs skc.1.a skc.1.ccd skc.1.cl skc.1.outer skc.1.A₀ skc.1.base skc.1.h₀ skc.1.L skc.1.m skc.1.s skc.1.Q skc.1.E skc.2.1 skc.2.2.1 skc.2.2.2.1 skc.2.2.2.2.1 := by
  with_unfolding_all exact skmain
end cmd_read_specK
theorem cmd_read_spec {w : World} {mean : ExcName → Option Value} {mg mb : Str → Option Value} (row : List UInt8) (tb unT : Tok) (n : Nat) (hb : row.length ≤ 100000) (hn : n ≤ 1000) : Spec w mean mg mb 5 175 [.bytes row.toArray tb, .int (n : Int) unT] (fun _ => True)
    (fun r tl => ∃ o nw nm c d k1 k2 k3 t1 t2 t3, rd row n = some (o, nw, nm) ∧ r = .ref c ∧ tl = [(c, instObj 181 d), (d, cmdD w k1 k2 k3 (.bytes o.toArray t1) (.bytes nw.toArray t2) (.str (S (tx nm)) t3))]) (rd row n = none) := by
  intro dp un gd cn cs a ccd cl outer A₀ base h₀ L m s Q E
  exact pick_spec (P := fun p : Cx × (List UInt8) × (Tok) × (Tok) × (Nat) × Unit => cmd_read_specK.skP p.1.w p.1.mean p.1.mg p.1.mb p.1.dp p.1.un p.1.gd p.1.cn p.1.cs p.1.a p.1.ccd p.1.cl p.1.outer p.1.A₀ p.1.base p.1.h₀ p.1.L p.1.m p.1.s p.1.Q p.1.E p.2.1 p.2.2.1 p.2.2.2.1 p.2.2.2.2.1) cmd_read_specK.skall (⟨w, mean, mg, mb, dp, un, gd, cn, cs, a, ccd, cl, outer, A₀, base, h₀, L, m, s, Q, E, default, default⟩, row, tb, unT, n, ()) hb hn
end
section
variable {w : World} {mean : ExcName → Option Value} {mg mb : Str → Option Value}
end
end
section
set_option maxHeartbeats 4000000
section
variable {w : World} {mean : ExcName → Option Value} {mg mb : Str → Option Value}
theorem two_fresh {g h' hh : Heap} {L' x dx : Addr} {news : List (Addr × Obj)} (hkp : ∀ b o, g.get? b = some o → h'.get? b = some o) (hx : g.get? x = none) (hdx : g.get? dx = none) {l : List Addr} (hl : l = [x, dx]) (N : News (hideAll h' l) L' hh news) :
    ∀ q ∈ news, hh.get? q.1 = some q.2 ∧ g.get? q.1 = none := fun q hq => by
  refine ⟨(N q hq).1, ?_⟩
  cases e : g.get? q.1 with
  | none => rfl
  | some o =>
    have : (hideAll h' l).get? q.1 = some o := hideAll_get _ (hkp _ o e) (by
      subst hl
      intro hm
      rcases List.mem_cons.mp hm with q' | hm
      · rw [q', hx] at e; cases e
      · rw [List.mem_singleton.mp hm, hdx] at e; cases e)
    rw [(N q hq).2.2] at this; cases this
theorem make_req_spec (l1 l2 : Addr) (c1 c2 : Nat) (xs ys : Array Value) (v3 : Value) (hxs : xs.size ≤ 1000000) (hys : ys.size ≤ 1000000) : Spec w mean mg mb 3 219 [.ref l1, .ref l2, v3] (Stand [(l1, listOf xs c1), (l2, listOf ys c2)])
    (fun r tl => ∃ c d k1 k2 k3 m1 m2 n1 n2, r = .ref c ∧ tl = [(m2, listOf ys n2), (m1, listOf xs n1), (c, instObj 219 d), (d, reqD w k1 k2 k3 (.ref m1) (.ref m2) v3)]) False := by
  intro dp un gd cn cs a ccd cl outer A₀ base h₀ L m s Q E B F X T hk hd hu hp hret hexc
  have hp1 := hp (l1, listOf xs c1) List.mem_cons_self
  have hp2 := hp (l2, listOf ys c2) (List.mem_cons_of_mem _ List.mem_cons_self)
  refine wpAny_call ?_
  refine make_enter F X (by k_dflt k_is) (by k_dflt k_is) (by k_dflt k_is) fun x dx h' hkp hx hdx hne F₁ N₁ => ?_
  k_extra "ktr_enter"
  have st := two_kept hkp hx hdx rfl (by assumption)
  k_extra "k_steps"
  refine list_of (by k_asm) (by k_asm) (st _ _ hp1) (.inl rfl) rfl rfl hxs fun D c h' F' N' hst hap hD => ?_
  k_lt hap
  k_extra "k_steps"
  have st2 := two_kept hkp hx hdx rfl (by assumption)
  refine list_of (by k_asm) (by k_asm) (st2 _ _ hp2) (.inl rfl) rfl rfl hys fun D2 c2 h' F' N' hst2 hap2 hD2 => ?_
  k_lt hap2
  k_extra "k_steps"
  rename_i F' N'
  have stF := two_kept hkp hx hdx rfl F'
  exact ⟨rfl, hret _ _ _ _ stF (two_fresh hkp hx hdx rfl N') ⟨_, _, _, _, _, _, _, _, _, rfl, rfl⟩⟩
end
end
section
set_option maxHeartbeats 4000000
section
variable {w : World} {mean : ExcName → Option Value} {mg mb : Str → Option Value}
theorem figs_map {n : Nat} (h : n < 65536) : figs n = [3, 2, 1, 0].map fun k => hx (n / 16 ^ k % 16) := by
  have e1 : n / 16 ^ 3 % 16 = n / 4096 := by
    rw [show 16 ^ 3 = 4096 from rfl]; omega
  simp only [figs, List.map_cons, List.map_nil, e1, show 16 ^ 2 = 256 from rfl, Nat.pow_one, Nat.pow_zero, Nat.div_one]
end
section
namespace law_line_specK
noncomputable def skP (w : World) (mean : ExcName → Option Value) (mg : Str → Option Value) (mb : Str → Option Value) (dp : Nat) (un : Nat) (gd : Option (List Code)) (cn : Str) (cs : Scope) (a : Addr) (ccd : Value) (cl : List (Str × Addr)) (outer : List Env) (A₀ : Around) (base : Heap) (h₀ : Heap) (L : Addr) (m : Str → Option Value) (s : Shared) (Q : Value → Shared → Prop) (E : Value → Shared → Prop) (b : List UInt8) (tb : Tok) : Prop :=
  (b.length ≤ 65516) → SpecAt w mean mg mb dp un gd cn cs a ccd cl outer A₀ base h₀ L m s Q E 3 240 [.bytes b.toArray tb] (fun _ => True) (fun r tl => tl = [] ∧ BytV (lineL b) r) False
noncomputable def skc : Cx × (List UInt8) × (Tok) × Unit := pick ⟨(cx0, default, default, ())⟩ (fun p : Cx × (List UInt8) × (Tok) × Unit => skP p.1.w p.1.mean p.1.mg p.1.mb p.1.dp p.1.un p.1.gd p.1.cn p.1.cs p.1.a p.1.ccd p.1.cl p.1.outer p.1.A₀ p.1.base p.1.h₀ p.1.L p.1.m p.1.s p.1.Q p.1.E p.2.1 p.2.2.1)
@[irreducible] noncomputable def w : World := skc.1.w
@[irreducible] noncomputable def mean : ExcName → Option Value := skc.1.mean
@[irreducible] noncomputable def mg : Str → Option Value := skc.1.mg
@[irreducible] noncomputable def mb : Str → Option Value := skc.1.mb
@[irreducible] noncomputable def dp : Nat := skc.1.dp
@[irreducible] noncomputable def un : Nat := skc.1.un
@[irreducible] noncomputable def gd : Option (List Code) := skc.1.gd
@[irreducible] noncomputable def cn : Str := skc.1.cn
@[irreducible] noncomputable def cs : Scope := skc.1.cs
@[irreducible] noncomputable def a : Addr := skc.1.a
@[irreducible] noncomputable def ccd : Value := skc.1.ccd
@[irreducible] noncomputable def cl : List (Str × Addr) := skc.1.cl
@[irreducible] noncomputable def outer : List Env := skc.1.outer
@[irreducible] noncomputable def A₀ : Around := skc.1.A₀
@[irreducible] noncomputable def base : Heap := skc.1.base
@[irreducible] noncomputable def h₀ : Heap := skc.1.h₀
@[irreducible] noncomputable def L : Addr := skc.1.L
@[irreducible] noncomputable def m : Str → Option Value := skc.1.m
@[irreducible] noncomputable def s : Shared := skc.1.s
@[irreducible] noncomputable def Q : Value → Shared → Prop := skc.1.Q
@[irreducible] noncomputable def E : Value → Shared → Prop := skc.1.E
@[irreducible] noncomputable def b : List UInt8 := skc.2.1
@[irreducible] noncomputable def tb : Tok := skc.2.2.1
noncomputable def en : { P : Addr → Heap → Tok → Prop // (∀ L' h' tk', P L' h' tk') → skP w mean mg mb dp un gd cn cs a ccd cl outer A₀ base h₀ L m s Q E b tb } :=
  ⟨_, by
  intro hP hb B F X T hk hd hu hp hret hexc
  refine wpAny_call ?_
  k_dflt k_extra "enC"⟩
noncomputable def enc : Addr × Heap × Tok := pick ⟨default⟩ fun p => en.1 p.1 p.2.1 p.2.2
@[irreducible] noncomputable def L' : Addr := enc.1
@[irreducible] noncomputable def h' : Heap := enc.2.1
@[irreducible] noncomputable def tk' : Tok := enc.2.2
theorem enall (q : en.1 L' h' tk') : ∀ a b c, en.1 a b c := by
  have q1 : (fun p : Addr × Heap × Tok => en.1 p.1 p.2.1 p.2.2) (pick ⟨default⟩ fun p => en.1 p.1 p.2.1 p.2.2) := by with_unfolding_all exact q
  exact fun a b c => pick_spec (P := fun p : Addr × Heap × Tok => en.1 p.1 p.2.1 p.2.2) (ne := ⟨default⟩) q1 (a, b, c)
theorem skmain : skP w mean mg mb dp un gd cn cs a ccd cl outer A₀ base h₀ L m s Q E b tb := by
  intro hb B F X T hk hd hu hp hret hexc
  refine en.2 (enall ?_) hb B F X T hk hd hu hp hret hexc
  intro _ _ _ Y' _ _ _; k_cells Y'
  (try dsimp only)
  k_extra "k_steps"
  k_extra "ktr_step"
  k_extra "k_steps"
  rename_i Nn _
  refine CompGo.rel (α := Int) (xs := [3, 2, 1, 0]) (fun (k : Int) y => OctV (hx ((b.length + 4) / 16 ^ k.toNat % 16)) y) (IterOf.rel (ys := [_, _, _, _]) (G := fun (k : Int) v => ∃ u, v = .int k u) ⟨⟨_, rfl⟩, ⟨_, rfl⟩, ⟨_, rfl⟩, ⟨_, rfl⟩, trivial⟩ (iter_tuple rfl (Nn _ List.mem_cons_self).1 rfl rfl)) (by k_asm) Nn (fun p hp => .inr (by rw [List.mem_singleton.mp hp]; exact List.mem_cons_self)) (by rw [sizeLine_eq]; decide) ?_ ?_ (fun x => x.elim)
  · intro k v C oC m₂ hc hz0 hn hxx I oI D ys h tk Q' E' F' N' off ne hret' _
    obtain ⟨u, rfl⟩ := hz0
    rcases List.mem_cons.mp hc with rfl | hc
    · k_extra "k_steps"
      refine byte_item (n := (b.length + 4) / 16 ^ Int.toNat 3 % 16) (c := hx ((b.length + 4) / 16 ^ Int.toNat 3 % 16)) ?_ (sig_at (Nat.mod_lt _ (by decide))) (by decide) fun t' k' => ?_
      · show _ = (((b.length + 4) / 4096 % 16 : Nat) : Int)
        rw [Int.fmod_eq_emod_of_nonneg _ (by decide), Int.fdiv_eq_ediv_of_nonneg _ (by decide), show ((16 : Int) ^ Int.toNat 3) = 4096 from rfl]
        omega
      k_extra "k_steps"
      exact hret' _ _ _ (by k_asm) (by k_asm) ⟨_, rfl⟩
    rcases List.mem_cons.mp hc with rfl | hc
    · k_extra "k_steps"
      refine byte_item (n := (b.length + 4) / 16 ^ Int.toNat 2 % 16) (c := hx ((b.length + 4) / 16 ^ Int.toNat 2 % 16)) ?_ (sig_at (Nat.mod_lt _ (by decide))) (by decide) fun t' k' => ?_
      · show _ = (((b.length + 4) / 256 % 16 : Nat) : Int)
        rw [Int.fmod_eq_emod_of_nonneg _ (by decide), Int.fdiv_eq_ediv_of_nonneg _ (by decide), show ((16 : Int) ^ Int.toNat 2) = 256 from rfl]
        omega
      k_extra "k_steps"
      exact hret' _ _ _ (by k_asm) (by k_asm) ⟨_, rfl⟩
    rcases List.mem_cons.mp hc with rfl | hc
    · k_extra "k_steps"
      refine byte_item (n := (b.length + 4) / 16 ^ Int.toNat 1 % 16) (c := hx ((b.length + 4) / 16 ^ Int.toNat 1 % 16)) ?_ (sig_at (Nat.mod_lt _ (by decide))) (by decide) fun t' k' => ?_
      · show _ = (((b.length + 4) / 16 % 16 : Nat) : Int)
        rw [Int.fmod_eq_emod_of_nonneg _ (by decide), Int.fdiv_eq_ediv_of_nonneg _ (by decide), show ((16 : Int) ^ Int.toNat 1) = 16 from rfl]
        omega
      k_extra "k_steps"
      exact hret' _ _ _ (by k_asm) (by k_asm) ⟨_, rfl⟩
    rcases List.mem_cons.mp hc with rfl | hc
    · k_extra "k_steps"
      refine byte_item (n := (b.length + 4) / 16 ^ Int.toNat 0 % 16) (c := hx ((b.length + 4) / 16 ^ Int.toNat 0 % 16)) ?_ (sig_at (Nat.mod_lt _ (by decide))) (by decide) fun t' k' => ?_
      · show _ = (((b.length + 4) / 1 % 16 : Nat) : Int)
        rw [Int.fmod_eq_emod_of_nonneg _ (by decide), Int.fdiv_eq_ediv_of_nonneg _ (by decide), show ((16 : Int) ^ Int.toNat 0) = 1 from rfl]
        omega
      k_extra "k_steps"
      exact hret' _ _ _ (by k_asm) (by k_asm) ⟨_, rfl⟩
    cases hc
  · intro ys hr D h tk F' N' o1
    have hr' := hr.map' (G' := OctV) (fun k : Int => hx ((b.length + 4) / 16 ^ k.toNat % 16)) (fun _ _ h => h)
    k_extra "k_steps"
    refine bytes_of_list (l := figs (b.length + 4)) (by k_asm) (by k_asm) rfl (News.isList (by k_asm) (by k_mem)) (by rw [figs_map (by omega)]; exact hr') (by show 4 ≤ _; omega) fun h' t' k' F' N' => ?_
    have hfl : (figs (b.length + 4)).length = 4 := rfl
    k_extra "k_steps"
    have e : figs (b.length + 4) ++ b = lineL b := rfl
    rw [e]
    (try dsimp only); with_reducible exact hret _ [] _ _ (fr_stays (by assumption)) (List.forall_mem_nil _) ⟨rfl, _, rfl⟩
theorem skall : skP skc.1.w skc.1.mean skc.1.mg skc.1.mb skc.1.dp skc.1.un skc.1.gd skc.1.cn skc.1.cs skc.1.a skc.1.ccd skc.1.cl skc.1.outer skc.1.A₀ skc.1.base skc.1.h₀ skc.1.L skc.1.m skc.1.s skc.1.Q skc.1.E skc.2.1 skc.2.2.1 := by
  with_unfolding_all exact skmain
end law_line_specK
theorem law_line_spec {w : World} {mean : ExcName → Option Value} {mg mb : Str → Option Value} (b : List UInt8) (tb : Tok) (hb : b.length ≤ 65516) : Spec w mean mg mb 3 240 [.bytes b.toArray tb] (fun _ => True) (fun r tl => tl = [] ∧ BytV (lineL b) r) False := by
  intro dp un gd cn cs a ccd cl outer A₀ base h₀ L m s Q E
  exact pick_spec (P := fun p : Cx × (List UInt8) × (Tok) × Unit => law_line_specK.skP p.1.w p.1.mean p.1.mg p.1.mb p.1.dp p.1.un p.1.gd p.1.cn p.1.cs p.1.a p.1.ccd p.1.cl p.1.outer p.1.A₀ p.1.base p.1.h₀ p.1.L p.1.m p.1.s p.1.Q p.1.E p.2.1 p.2.2.1) law_line_specK.skall (⟨w, mean, mg, mb, dp, un, gd, cn, cs, a, ccd, cl, outer, A₀, base, h₀, L, m, s, Q, E, default, default⟩, b, tb, ()) hb
end
section
variable {w : World} {mean : ExcName → Option Value} {mg mb : Str → Option Value}
end
end
section
set_option maxHeartbeats 4000000
section
variable {w : World} {mean : ExcName → Option Value} {mg mb : Str → Option Value}
noncomputable def CmdAt (w : World) (h : Heap) (cmd : Cmd) (v : Value) : Prop := ∃ c d k1 k2 k3 t1 t2 t3, v = .ref c ∧ h.get? c = some (instObj 181 d) ∧ h.get? d = some (cmdD w k1 k2 k3 (.bytes cmd.1.toArray t1) (.bytes cmd.2.1.toArray t2) (.str (S (tx cmd.2.2)) t3))
noncomputable def crow (c : Cmd) : List UInt8 := hexL c.1 ++ [32] ++ hexL c.2.1 ++ [32] ++ c.2.2
noncomputable def rowsL (ws : List UInt8) : List Cmd → List (List UInt8)
  | [] => []
  | c :: r => lineL (crow c ++ ([0, 32] ++ ws) ++ [10]) :: r.map fun c => lineL (crow c ++ [10])
noncomputable def small (cmds : List Cmd) : Prop := cmds.length ≤ 100 ∧ ∀ c ∈ cmds, c.1.length ≤ 100 ∧ c.2.1.length ≤ 100 ∧ c.2.2.length ≤ 100
theorem rowsL_length (ws : List UInt8) (cmds : List Cmd) : (rowsL ws cmds).length = cmds.length := by
  cases cmds <;> simp [rowsL]
theorem stand_two {h : Heap} {p q : Addr × Obj} (h1 : h.get? p.1 = some p.2) (h2 : h.get? q.1 = some q.2) : Stand [p, q] h := fun x hx => by
  rcases List.mem_cons.mp hx with rfl | hx
  · exact h1
  · rw [List.mem_singleton.mp hx]; exact h2
theorem stand_app {h : Heap} {a b : List (Addr × Obj)} (h1 : Stand a h) (h2 : Stand b h) : Stand (a ++ b) h := fun x hx => (List.mem_append.mp hx).elim (h1 x) (h2 x)
theorem stand_sub {h : Heap} {a b : List (Addr × Obj)} (h1 : Stand b h) (hs : ∀ p ∈ a, p ∈ b) : Stand a h := fun x hx => h1 x (hs x hx)
theorem tx_append (a b : List UInt8) : tx (a ++ b) = tx a ++ tx b := by simp [tx]
theorem tx_join : ∀ (sep : List UInt8) (ls : List (List UInt8)), tx (joinL sep ls) = joinL (tx sep) (ls.map tx)
  | sep, [] => rfl
  | sep, [a] => by simp [joinL]
  | sep, a :: b :: r => by
    have e := joinL_cons sep a (b :: r) (by simp)
    have e2 := joinL_cons (tx sep) (tx a) ((b :: r).map tx) (by simp)
    rw [e, List.map_cons, e2, tx_append, tx_append, tx_join sep (b :: r)]
theorem sum_le {α : Type} {B : Nat} : ∀ (ls : List (List α)), (∀ x ∈ ls, x.length ≤ B) → (ls.map List.length).sum ≤ ls.length * B
  | [], _ => by simp
  | x :: r, h => by
    have h1 := h x (List.mem_cons_self ..)
    have h2 := sum_le r fun z hz => h z (List.mem_cons_of_mem _ hz)
    simp only [List.map_cons, List.sum_cons, List.length_cons, Nat.succ_mul]
    omega
theorem joinL_le {α : Type} (sep : List α) : ∀ (ls : List (List α)), (joinL sep ls).length ≤ (ls.map List.length).sum + sep.length * ls.length
  | [] => by simp [joinL]
  | p :: ls => by
    have ih := joinL_le sep ls
    by_cases h0 : ls = []
    · subst h0; simp [joinL]
    · rw [joinL_cons _ _ _ h0]
      simp only [List.length_append, List.map_cons, List.sum_cons, List.length_cons, Nat.mul_succ]
      omega
theorem tx_length (b : List UInt8) : (tx b).length = b.length := by simp [tx]
theorem rowsL_take {ws : List UInt8} : ∀ {cmds : List Cmd} {i : Nat} {c : Cmd}, cmds[i]? = some c → rowsL ws (cmds.take (i + 1)) = rowsL ws (cmds.take i) ++ [lineL (crow c ++ (if i = 0 then [0, 32] ++ ws else []) ++ [10])]
  | [], i, c, h => by simp at h
  | a :: r, 0, c, h => by simp at h; subst h; simp [rowsL]
  | a :: r, i + 1, c, h => by
    have h' : r[i]? = some c := by simpa using h
    rw [List.take_succ_cons, List.take_succ_cons, rowsL, rowsL, List.take_add_one, h']
    simp
theorem rowsL_le {ws : List UInt8} {cmds : List Cmd} {B : Nat} (h : ∀ c ∈ cmds, (crow c).length ≤ B) : ∀ x ∈ rowsL ws cmds, x.length ≤ B + ws.length + 10 := by
  cases cmds with
  | nil => intro x hx; cases hx
  | cons c r =>
    intro x hx
    rcases List.mem_cons.mp hx with rfl | hx
    · have := h c List.mem_cons_self
      simp only [lineL, figs, List.length_append, List.length_cons, List.length_nil]; omega
    · obtain ⟨c', hc', rfl⟩ := List.mem_map.mp hx
      have := h c' (List.mem_cons_of_mem _ hc')
      simp only [lineL, figs, List.length_append, List.length_cons, List.length_nil]; omega
end
section
namespace req_octets_specK
noncomputable def skP (w : World) (mean : ExcName → Option Value) (mg : Str → Option Value) (mb : Str → Option Value) (dp : Nat) (un : Nat) (gd : Option (List Code)) (cn : Str) (cs : Scope) (a : Addr) (ccd : Value) (cl : List (Str × Addr)) (outer : List Env) (A₀ : Around) (base : Heap) (h₀ : Heap) (L : Addr) (m : Str → Option Value) (s : Shared) (Q : Value → Shared → Prop) (E : Value → Shared → Prop) (c : Addr) (d : Addr) (m1 : Addr) (m2 : Addr) (n1 : Nat) (n2 : Nat) (k1 : Tok) (k2 : Tok) (k3 : Tok) (tp : Tok) (cmds : List Cmd) (words : List (List UInt8)) (pack : List UInt8) (vs : List Value) (us : List Value) : Prop :=
  (small cmds) → (words.length ≤ 100 ∧ ∀ x ∈ words, x.length ≤ 100) → (pack.length ≤ 1000) → (Rel2 TxtV (words.map tx) us) → SpecAt w mean mg mb dp un gd cn cs a ccd cl outer A₀ base h₀ L m s Q E 5 208 [.ref c]
    (fun h => Stand [(c, instObj 219 d), (d, reqD w k1 k2 k3 (.ref m1) (.ref m2) (.bytes pack.toArray tp)), (m1, listOf vs.toArray n1), (m2, listOf us.toArray n2)] h ∧ Rel2 (CmdAt w h) cmds vs)
    (fun r tl => tl = [] ∧ BytV ((rowsL (joinL [32] words) cmds).flatten ++ [48, 48, 48, 48] ++ pack) r) False
noncomputable def skc : Cx × (Addr) × (Addr) × (Addr) × (Addr) × (Nat) × (Nat) × (Tok) × (Tok) × (Tok) × (Tok) × (List Cmd) × (List (List UInt8)) × (List UInt8) × (List Value) × (List Value) × Unit := pick ⟨(cx0, default, default, default, default, default, default, default, default, default, default, default, default, default, default, default, ())⟩ (fun p : Cx × (Addr) × (Addr) × (Addr) × (Addr) × (Nat) × (Nat) × (Tok) × (Tok) × (Tok) × (Tok) × (List Cmd) × (List (List UInt8)) × (List UInt8) × (List Value) × (List Value) × Unit => skP p.1.w p.1.mean p.1.mg p.1.mb p.1.dp p.1.un p.1.gd p.1.cn p.1.cs p.1.a p.1.ccd p.1.cl p.1.outer p.1.A₀ p.1.base p.1.h₀ p.1.L p.1.m p.1.s p.1.Q p.1.E p.2.1 p.2.2.1 p.2.2.2.1 p.2.2.2.2.1 p.2.2.2.2.2.1 p.2.2.2.2.2.2.1 p.2.2.2.2.2.2.2.1 p.2.2.2.2.2.2.2.2.1 p.2.2.2.2.2.2.2.2.2.1 p.2.2.2.2.2.2.2.2.2.2.1 p.2.2.2.2.2.2.2.2.2.2.2.1 p.2.2.2.2.2.2.2.2.2.2.2.2.1 p.2.2.2.2.2.2.2.2.2.2.2.2.2.1 p.2.2.2.2.2.2.2.2.2.2.2.2.2.2.1 p.2.2.2.2.2.2.2.2.2.2.2.2.2.2.2.1)
@[irreducible] noncomputable def w : World := skc.1.w
@[irreducible] noncomputable def mean : ExcName → Option Value := skc.1.mean
@[irreducible] noncomputable def mg : Str → Option Value := skc.1.mg
@[irreducible] noncomputable def mb : Str → Option Value := skc.1.mb
@[irreducible] noncomputable def dp : Nat := skc.1.dp
@[irreducible] noncomputable def un : Nat := skc.1.un
@[irreducible] noncomputable def gd : Option (List Code) := skc.1.gd
@[irreducible] noncomputable def cn : Str := skc.1.cn
@[irreducible] noncomputable def cs : Scope := skc.1.cs
@[irreducible] noncomputable def a : Addr := skc.1.a
@[irreducible] noncomputable def ccd : Value := skc.1.ccd
@[irreducible] noncomputable def cl : List (Str × Addr) := skc.1.cl
@[irreducible] noncomputable def outer : List Env := skc.1.outer
@[irreducible] noncomputable def A₀ : Around := skc.1.A₀
@[irreducible] noncomputable def base : Heap := skc.1.base
@[irreducible] noncomputable def h₀ : Heap := skc.1.h₀
@[irreducible] noncomputable def L : Addr := skc.1.L
@[irreducible] noncomputable def m : Str → Option Value := skc.1.m
@[irreducible] noncomputable def s : Shared := skc.1.s
@[irreducible] noncomputable def Q : Value → Shared → Prop := skc.1.Q
@[irreducible] noncomputable def E : Value → Shared → Prop := skc.1.E
@[irreducible] noncomputable def c : Addr := skc.2.1
@[irreducible] noncomputable def d : Addr := skc.2.2.1
@[irreducible] noncomputable def m1 : Addr := skc.2.2.2.1
@[irreducible] noncomputable def m2 : Addr := skc.2.2.2.2.1
@[irreducible] noncomputable def n1 : Nat := skc.2.2.2.2.2.1
@[irreducible] noncomputable def n2 : Nat := skc.2.2.2.2.2.2.1
@[irreducible] noncomputable def k1 : Tok := skc.2.2.2.2.2.2.2.1
@[irreducible] noncomputable def k2 : Tok := skc.2.2.2.2.2.2.2.2.1
@[irreducible] noncomputable def k3 : Tok := skc.2.2.2.2.2.2.2.2.2.1
@[irreducible] noncomputable def tp : Tok := skc.2.2.2.2.2.2.2.2.2.2.1
@[irreducible] noncomputable def cmds : List Cmd := skc.2.2.2.2.2.2.2.2.2.2.2.1
@[irreducible] noncomputable def words : List (List UInt8) := skc.2.2.2.2.2.2.2.2.2.2.2.2.1
@[irreducible] noncomputable def pack : List UInt8 := skc.2.2.2.2.2.2.2.2.2.2.2.2.2.1
@[irreducible] noncomputable def vs : List Value := skc.2.2.2.2.2.2.2.2.2.2.2.2.2.2.1
@[irreducible] noncomputable def us : List Value := skc.2.2.2.2.2.2.2.2.2.2.2.2.2.2.2.1
noncomputable def en : { P : Addr → Heap → Prop // (∀ L' h', P L' h') → skP w mean mg mb dp un gd cn cs a ccd cl outer A₀ base h₀ L m s Q E c d m1 m2 n1 n2 k1 k2 k3 tp cmds words pack vs us } :=
  ⟨_, by
  intro hP hc hw hpk hus B F X T hk hd hu hp hret hexc
  refine wpAny_call ?_
  k_dflt k_extra "enP"⟩
noncomputable def enc : Addr × Heap := pick ⟨default⟩ fun p => en.1 p.1 p.2
@[irreducible] noncomputable def L' : Addr := enc.1
@[irreducible] noncomputable def h' : Heap := enc.2
theorem enall (q : en.1 L' h') : ∀ a b, en.1 a b := by
  have q1 : (fun p : Addr × Heap => en.1 p.1 p.2) (pick ⟨default⟩ fun p => en.1 p.1 p.2) := by with_unfolding_all exact q
  exact fun a b => pick_spec (P := fun p : Addr × Heap => en.1 p.1 p.2) (ne := ⟨default⟩) q1 (a, b)
noncomputable def skmain_sb1 : { pQ : (Addr) → (Heap) → (Nat) → (Cmd) → (List Value) → (Option Value) → (Heap) → (Nat) → (Addr) → (Obj) → (Flow → Shared → Prop) → (Value → Shared → Prop) → (Addr) → (Addr) → (Tok) → (Tok) → (Tok) → (Tok) → (Tok) → (Tok) → Prop // (∀ (z3 : Addr) (z6 : Heap) (i : Nat) (cmd : Cmd) (st : List Value) (ow : Option Value) (h : Heap) (tk : Nat) (J : Addr) (oJ : Obj) (Q' : Flow → Shared → Prop) (E' : Value → Shared → Prop) (cc : Addr) (dd : Addr) (q1 : Tok) (q2 : Tok) (q3 : Tok) (u1 : Tok) (u2 : Tok) (u3 : Tok), pQ z3 z6 i cmd st ow h tk J oJ Q' E' cc dd q1 q2 q3 u1 u2 u3) → (skP w mean mg mb dp un gd cn cs a ccd cl outer A₀ base h₀ L m s Q E c d m1 m2 n1 n2 k1 k2 k3 tp cmds words pack vs us) } := ⟨_, by
  intro hP_a
  intro hc hw hpk hus B F X T hk hd hu hp hret hexc
  refine en.2 (enall ?_) hc hw hpk hus B F X T hk hd hu hp hret hexc
  intro _ _ _ _ _
  (try dsimp only)
  obtain ⟨hS, hR⟩ := hp
  have hws : (joinL [32] words).length ≤ 10100 := by
    have e1 := joinL_le [32] words
    have e2 := sum_le (B := 100) words hw.2
    have := hw.1
    have e3 : ([32] : List UInt8).length = 1 := rfl
    rw [e3] at e1; omega
  k_extra "k_steps"
  refine for_rule (exc := False) (by k_asm) rfl rfl (by rfl) (by rfl) ?_
  k_extra "k_steps"
  refine ForGo.inv (σ := List Value × Option Value) (fun i st => Rel2 BytV (rowsL (joinL [32] words) (cmds.take i)) st.1) (fun st => [(Str.ofString "words", st.2)]) (fun st => [(_, lst st.1)]) ([], none)
    (IterOf.rel hR (iter_list (ol := listOf vs.toArray n1) rfl (Fr.keep (by k_asm) _ _ (hS (m1, listOf vs.toArray n1) (by k_mem))) rfl rfl)) (by k_asm) (by k_asm) (ovr_cons rfl fun _ => rfl) trivial ?_ ?_ (fun x => x.elim)
  · intro i cmd v; refine pr2 ?_
    intro st ow h tk hci hz0 hI hSt J oJ Q' E' F' N' hne hnext hbrk hret' _
    obtain ⟨cc, dd, q1, q2, q3, u1, u2, u3, rfl, hcc, hdd⟩ := hz0
    dsimp only [ovr] at *
    rename_i z0 z1 z2 z3 z4 z5 z6 z7 z8 z9
    revert hc hw hpk hus B F X T hk hd hu hret hexc z0 z1 z2 hS hR hws z5 z7 z8 hci hI hSt N' hne hnext hbrk hret' z9 F' hcc hdd; exact hP_a z3 z6 i cmd st ow h tk J oJ Q' E' cc dd q1 q2 q3 u1 u2 u3
  · refine pr2 ?_
    intro st ow o h' tk' hI hSt F'' N''
    clear hSt
    dsimp only [ovr] at *
    rw [List.take_of_length_le (Nat.le_refl _)] at hI
    (try dsimp only at hI)
    have hle : ∀ x ∈ rowsL (joinL [32] words) cmds, x.length ≤ 600 + 10100 + 10 := fun x hx => by
      have := rowsL_le (ws := joinL [32] words) (cmds := cmds) (B := 600) (fun c hc' => by
        obtain ⟨b1, b2, b3⟩ := hc.2 c hc'
        simp only [crow, List.length_append, hexL_length, List.length_cons, List.length_nil]; omega) x hx
      omega
    have hsum := sum_le _ hle
    have hjl := joinL_le [] (rowsL (joinL [32] words) cmds)
    rw [rowsL_length] at hsum
    have := hc.1
    k_extra "k_steps"
    refine bjoin_L (sep := []) hI (News.isList (by k_asm) (by k_mem)) (by rw [rowsL_length]; show _ + 0 * _ ≤ _; omega) fun t' k' => ?_
    have hjl2 : (joinL [] (rowsL (joinL [32] words) cmds)).length ≤ 1500000 := by
      have e : (([] : List UInt8)).length = 0 := rfl
      rw [e] at hjl; omega
    k_extra "k_steps"
    refine Spec.use (flush_spec _) (by k_asm) (by k_asm) (by k_asm) (by k_asm) (by k_asm) rfl (by k_extra "ktr_room") (by k_extra "ktr_room") trivial ?_ (fun x => x.elim)
    rintro r tl h' tk' F' N' hsep hst hst'
    obtain ⟨rfl, u6, rfl⟩ := hst'
    k_extra "k_steps"
    (try dsimp only)
    rw [← joinL_nil] at hret
    with_reducible exact hret _ [] _ _ (fr_stays (by assumption)) (List.forall_mem_nil _) ⟨rfl, _, rfl⟩⟩
namespace skmain_a
noncomputable def c0 : (Addr) × (Heap) × (Nat) × (Cmd) × (List Value) × (Option Value) × (Heap) × (Nat) × (Addr) × (Obj) × (Flow → Shared → Prop) × (Value → Shared → Prop) × (Addr) × (Addr) × (Tok) × (Tok) × (Tok) × (Tok) × (Tok) × (Tok) × Unit := pick ⟨⟨default, default, default, default, default, default, default, default, default, default, default, default, default, default, default, default, default, default, default, default, ()⟩⟩ fun q => skmain_sb1.1 q.1 q.2.1 q.2.2.1 q.2.2.2.1 q.2.2.2.2.1 q.2.2.2.2.2.1 q.2.2.2.2.2.2.1 q.2.2.2.2.2.2.2.1 q.2.2.2.2.2.2.2.2.1 q.2.2.2.2.2.2.2.2.2.1 q.2.2.2.2.2.2.2.2.2.2.1 q.2.2.2.2.2.2.2.2.2.2.2.1 q.2.2.2.2.2.2.2.2.2.2.2.2.1 q.2.2.2.2.2.2.2.2.2.2.2.2.2.1 q.2.2.2.2.2.2.2.2.2.2.2.2.2.2.1 q.2.2.2.2.2.2.2.2.2.2.2.2.2.2.2.1 q.2.2.2.2.2.2.2.2.2.2.2.2.2.2.2.2.1 q.2.2.2.2.2.2.2.2.2.2.2.2.2.2.2.2.2.1 q.2.2.2.2.2.2.2.2.2.2.2.2.2.2.2.2.2.2.1 q.2.2.2.2.2.2.2.2.2.2.2.2.2.2.2.2.2.2.2.1
@[irreducible] noncomputable def z3 : Addr := c0.1
@[irreducible] noncomputable def z6 : Heap := c0.2.1
@[irreducible] noncomputable def i : Nat := c0.2.2.1
@[irreducible] noncomputable def cmd : Cmd := c0.2.2.2.1
@[irreducible] noncomputable def st : List Value := c0.2.2.2.2.1
@[irreducible] noncomputable def ow : Option Value := c0.2.2.2.2.2.1
@[irreducible] noncomputable def h : Heap := c0.2.2.2.2.2.2.1
@[irreducible] noncomputable def tk : Nat := c0.2.2.2.2.2.2.2.1
@[irreducible] noncomputable def J : Addr := c0.2.2.2.2.2.2.2.2.1
@[irreducible] noncomputable def oJ : Obj := c0.2.2.2.2.2.2.2.2.2.1
@[irreducible] noncomputable def Q' : Flow → Shared → Prop := c0.2.2.2.2.2.2.2.2.2.2.1
@[irreducible] noncomputable def E' : Value → Shared → Prop := c0.2.2.2.2.2.2.2.2.2.2.2.1
@[irreducible] noncomputable def cc : Addr := c0.2.2.2.2.2.2.2.2.2.2.2.2.1
@[irreducible] noncomputable def dd : Addr := c0.2.2.2.2.2.2.2.2.2.2.2.2.2.1
@[irreducible] noncomputable def q1 : Tok := c0.2.2.2.2.2.2.2.2.2.2.2.2.2.2.1
@[irreducible] noncomputable def q2 : Tok := c0.2.2.2.2.2.2.2.2.2.2.2.2.2.2.2.1
@[irreducible] noncomputable def q3 : Tok := c0.2.2.2.2.2.2.2.2.2.2.2.2.2.2.2.2.1
@[irreducible] noncomputable def u1 : Tok := c0.2.2.2.2.2.2.2.2.2.2.2.2.2.2.2.2.2.1
@[irreducible] noncomputable def u2 : Tok := c0.2.2.2.2.2.2.2.2.2.2.2.2.2.2.2.2.2.2.1
@[irreducible] noncomputable def u3 : Tok := c0.2.2.2.2.2.2.2.2.2.2.2.2.2.2.2.2.2.2.2.1
theorem main : skmain_sb1.1 z3 z6 i cmd st ow h tk J oJ Q' E' cc dd q1 q2 q3 u1 u2 u3 := by
  intro hc hw hpk hus B F X T hk hd hu hret hexc z0 z1 z2 hS hR hws z5 z7 z8 hci hI hSt N' hne hnext hbrk hret' z9 F' hcc hdd
  have hS2 : Stand [(cc, instObj 181 dd), (dd, cmdD w q1 q2 q3 (.bytes cmd.1.toArray u1) (.bytes cmd.2.1.toArray u2) (.str (S (tx cmd.2.2)) u3))] s.heap := stand_two hcc hdd
  have hS3 := stand_app hS hS2
  clear hS hS2
  dsimp only [List.cons_append, List.nil_append] at hS3
  have l1 := hexL_length cmd.1
  have l2 := hexL_length cmd.2.1
  obtain ⟨hc1, hc2⟩ := hc
  obtain ⟨b1, b2, b3⟩ := hc2 cmd (List.mem_of_getElem? hci)
  have hi : i < cmds.length := by
    rcases Nat.lt_or_ge i cmds.length with h | h
    · exact h
    · rw [List.getElem?_eq_none h] at hci; cases hci
  have hstl := hI.length
  rw [rowsL_length, List.length_take] at hstl
  have hcl : (crow cmd).length ≤ 600 := by simp only [crow, List.length_append, List.length_cons, List.length_nil]; omega
  k_extra "k_steps"
  rename_i Nx lx
  refine eq_empty (xs := st) (News.isList Nx (by k_mem)) (News.isList (items := #[]) Nx (by k_mem)) (by k_extra "ktr_room") ?_
  cases hst : st.isEmpty with
  | true =>
    have h0 : i = 0 := by
      rw [List.isEmpty_iff] at hst
      rw [hst] at hstl
      simp at hstl; omega
    k_extra "k_steps"
    refine tjoin_L (sep := tx [32]) rfl hus (s := ⟨_, _, _, _, _⟩) ⟨_, Fr.keep (by k_asm) _ _ (hS3 (m2, listOf us.toArray n2) (by k_mem)), rfl, _, rfl⟩ (by
      have e1 := sum_le (B := 100) (words.map tx) (fun x hx => by
        obtain ⟨y, hy, rfl⟩ := List.mem_map.mp hx
        rw [tx_length]; exact hw.2 y hy)
      rw [List.length_map] at e1 ⊢
      have e2 : (tx [32]).length = 1 := rfl
      rw [e2]; have := hw.1; omega) fun t' k' => ?_
    rw [← tx_join]
    k_extra "k_steps"
    refine Spec.use (octets_of_spec (joinL [32] words) _ (by omega)) (by k_asm) (by k_asm) (by k_asm) (by k_asm) (by k_asm) rfl (by k_extra "ktr_room") (by k_extra "ktr_room") trivial ?_ (fun x => x.elim)
    rintro r tl h' tk' F' N' hsep hst hst'
    obtain ⟨rfl, u4, rfl⟩ := hst'
    k_extra "k_steps"
    dsimp only
    refine Spec.use (cmd_row_spec cc dd q1 q2 q3 u1 u2 u3 cmd.1 cmd.2.1 cmd.2.2 (by omega) (by omega) (by omega)) (by k_asm) (by k_asm) (by k_asm) (by k_asm) (by k_asm) rfl (by k_extra "ktr_room") (by k_extra "ktr_room") (stand_base (by k_asm) (stand_sub hS3 (by simp))) ?_ (fun x => x.elim)
    rintro r tl h' tk' F' N' hsep hst2 ⟨rfl, u5, rfl⟩
    k_extra "k_steps"
    refine Spec.use (pkt_spec (crow cmd ++ ([0, 32] ++ joinL [32] words) ++ [10]) _ (by simp only [List.length_append, List.length_cons, List.length_nil]; omega)) (by k_asm) (by k_asm) (by k_asm) (by k_asm) (by k_asm) rfl (by k_extra "ktr_room") (by k_extra "ktr_room") trivial ?_ (fun x => x.elim)
    rintro r tl h' tk' F' N' hsep hst hst'
    obtain ⟨rfl, u6, rfl⟩ := hst'
    k_extra "k_steps"
    refine append_L [(J, oJ)] [] (by k_asm) (news_weak (l := [(J, oJ), (_, lst st)]) N' (by simp)) (fun p hp e => ?_) (by omega) fun h' F' N' hs => ?_
    · rw [List.append_nil, List.mem_singleton] at hp
      rw [hp] at e
      exact hne _ List.mem_cons_self e.symm
    k_extra "k_steps"
    refine' hnext (st ++ [Value.bytes _ u6], ?tok) _ _ _ _ (.inl rfl) F' ?_ N' ?_ ?_ ?_
    rotate_left
    · intro z hz
      dsimp only [ovr, upd]
      by_cases h1 : z = Str.ofString "words"
      · rw [if_pos h1, if_pos h1]
      · simp only [h1, hz, if_false]
    · intro p hp
      rw [List.mem_singleton.mp hp]
      exact hne (_, lst st) List.mem_cons_self
    · exact stand_base (by k_asm) (stand_sub hS3 (by simp))
    · show Rel2 BytV (rowsL (joinL [32] words) (cmds.take (i + 1))) _
      rw [rowsL_take hci]
      exact Rel2.snoc ⟨_, by rw [if_pos h0]; rfl⟩ hI
  | false =>
    have h0 : i ≠ 0 := by
      intro hi0
      rw [hi0] at hstl
      rw [List.isEmpty_eq_false_iff] at hst
      exact hst (List.length_eq_zero_iff.mp (by simpa using hstl))
    k_extra "k_steps"
    dsimp only
    refine Spec.use (cmd_row_spec cc dd q1 q2 q3 u1 u2 u3 cmd.1 cmd.2.1 cmd.2.2 (by omega) (by omega) (by omega)) (by k_asm) (by k_asm) (by k_asm) (by k_asm) (by k_asm) rfl (by k_extra "ktr_room") (by k_extra "ktr_room") (stand_base (by k_asm) (stand_sub hS3 (by simp))) ?_ (fun x => x.elim)
    rintro r tl h' tk' F' N' hsep hst2 ⟨rfl, u4, rfl⟩
    k_extra "k_steps"
    refine Spec.use (pkt_spec (crow cmd ++ [] ++ [10]) _ (by simp only [List.length_append, List.length_cons, List.length_nil]; omega)) (by k_asm) (by k_asm) (by k_asm) (by k_asm) (by k_asm) rfl (by k_extra "ktr_room") (by k_extra "ktr_room") trivial ?_ (fun x => x.elim)
    rintro r tl h' tk' F' N' hsep hst hst'
    obtain ⟨rfl, u6, rfl⟩ := hst'
    k_extra "k_steps"
    refine append_L [(J, oJ)] [] (by k_asm) (news_weak (l := [(J, oJ), (_, lst st)]) N' (by simp)) (fun p hp e => ?_) (by omega) fun h' F' N' hs => ?_
    · rw [List.append_nil, List.mem_singleton] at hp
      rw [hp] at e
      exact hne _ List.mem_cons_self e.symm
    k_extra "k_steps"
    refine' hnext (st ++ [Value.bytes _ u6], ?tok2) _ _ _ _ (.inl rfl) F' ?_ N' ?_ ?_ ?_
    rotate_left
    · intro z hz
      dsimp only [ovr, upd]
      by_cases h1 : z = Str.ofString "words"
      · rw [if_pos h1, if_pos h1]
      · simp only [h1, hz, if_false]
    · intro p hp
      rw [List.mem_singleton.mp hp]
      exact hne (_, lst st) List.mem_cons_self
    · exact stand_base (by k_asm) (stand_sub hS3 (by simp))
    · show Rel2 BytV (rowsL (joinL [32] words) (cmds.take (i + 1))) _
      rw [rowsL_take hci]
      exact Rel2.snoc ⟨_, by rw [if_neg h0]⟩ hI
theorem all : ∀ a0 a1 a2 a3 a4 a5 a6 a7 a8 a9 a10 a11 a12 a13 a14 a15 a16 a17 a18 a19, skmain_sb1.1 a0 a1 a2 a3 a4 a5 a6 a7 a8 a9 a10 a11 a12 a13 a14 a15 a16 a17 a18 a19 := by
  have q1 : (fun q : (Addr) × (Heap) × (Nat) × (Cmd) × (List Value) × (Option Value) × (Heap) × (Nat) × (Addr) × (Obj) × (Flow → Shared → Prop) × (Value → Shared → Prop) × (Addr) × (Addr) × (Tok) × (Tok) × (Tok) × (Tok) × (Tok) × (Tok) × Unit => skmain_sb1.1 q.1 q.2.1 q.2.2.1 q.2.2.2.1 q.2.2.2.2.1 q.2.2.2.2.2.1 q.2.2.2.2.2.2.1 q.2.2.2.2.2.2.2.1 q.2.2.2.2.2.2.2.2.1 q.2.2.2.2.2.2.2.2.2.1 q.2.2.2.2.2.2.2.2.2.2.1 q.2.2.2.2.2.2.2.2.2.2.2.1 q.2.2.2.2.2.2.2.2.2.2.2.2.1 q.2.2.2.2.2.2.2.2.2.2.2.2.2.1 q.2.2.2.2.2.2.2.2.2.2.2.2.2.2.1 q.2.2.2.2.2.2.2.2.2.2.2.2.2.2.2.1 q.2.2.2.2.2.2.2.2.2.2.2.2.2.2.2.2.1 q.2.2.2.2.2.2.2.2.2.2.2.2.2.2.2.2.2.1 q.2.2.2.2.2.2.2.2.2.2.2.2.2.2.2.2.2.2.1 q.2.2.2.2.2.2.2.2.2.2.2.2.2.2.2.2.2.2.2.1) (pick ⟨⟨default, default, default, default, default, default, default, default, default, default, default, default, default, default, default, default, default, default, default, default, ()⟩⟩ fun q => skmain_sb1.1 q.1 q.2.1 q.2.2.1 q.2.2.2.1 q.2.2.2.2.1 q.2.2.2.2.2.1 q.2.2.2.2.2.2.1 q.2.2.2.2.2.2.2.1 q.2.2.2.2.2.2.2.2.1 q.2.2.2.2.2.2.2.2.2.1 q.2.2.2.2.2.2.2.2.2.2.1 q.2.2.2.2.2.2.2.2.2.2.2.1 q.2.2.2.2.2.2.2.2.2.2.2.2.1 q.2.2.2.2.2.2.2.2.2.2.2.2.2.1 q.2.2.2.2.2.2.2.2.2.2.2.2.2.2.1 q.2.2.2.2.2.2.2.2.2.2.2.2.2.2.2.1 q.2.2.2.2.2.2.2.2.2.2.2.2.2.2.2.2.1 q.2.2.2.2.2.2.2.2.2.2.2.2.2.2.2.2.2.1 q.2.2.2.2.2.2.2.2.2.2.2.2.2.2.2.2.2.2.1 q.2.2.2.2.2.2.2.2.2.2.2.2.2.2.2.2.2.2.2.1) := by with_unfolding_all exact main
  exact fun a0 a1 a2 a3 a4 a5 a6 a7 a8 a9 a10 a11 a12 a13 a14 a15 a16 a17 a18 a19 => pick_spec (P := fun q : (Addr) × (Heap) × (Nat) × (Cmd) × (List Value) × (Option Value) × (Heap) × (Nat) × (Addr) × (Obj) × (Flow → Shared → Prop) × (Value → Shared → Prop) × (Addr) × (Addr) × (Tok) × (Tok) × (Tok) × (Tok) × (Tok) × (Tok) × Unit => skmain_sb1.1 q.1 q.2.1 q.2.2.1 q.2.2.2.1 q.2.2.2.2.1 q.2.2.2.2.2.1 q.2.2.2.2.2.2.1 q.2.2.2.2.2.2.2.1 q.2.2.2.2.2.2.2.2.1 q.2.2.2.2.2.2.2.2.2.1 q.2.2.2.2.2.2.2.2.2.2.1 q.2.2.2.2.2.2.2.2.2.2.2.1 q.2.2.2.2.2.2.2.2.2.2.2.2.1 q.2.2.2.2.2.2.2.2.2.2.2.2.2.1 q.2.2.2.2.2.2.2.2.2.2.2.2.2.2.1 q.2.2.2.2.2.2.2.2.2.2.2.2.2.2.2.1 q.2.2.2.2.2.2.2.2.2.2.2.2.2.2.2.2.1 q.2.2.2.2.2.2.2.2.2.2.2.2.2.2.2.2.2.1 q.2.2.2.2.2.2.2.2.2.2.2.2.2.2.2.2.2.2.1 q.2.2.2.2.2.2.2.2.2.2.2.2.2.2.2.2.2.2.2.1) (ne := ⟨⟨default, default, default, default, default, default, default, default, default, default, default, default, default, default, default, default, default, default, default, default, ()⟩⟩) q1 ⟨a0, a1, a2, a3, a4, a5, a6, a7, a8, a9, a10, a11, a12, a13, a14, a15, a16, a17, a18, a19, ()⟩
end skmain_a
theorem skmain : skP w mean mg mb dp un gd cn cs a ccd cl outer A₀ base h₀ L m s Q E c d m1 m2 n1 n2 k1 k2 k3 tp cmds words pack vs us := skmain_sb1.2 skmain_a.all
theorem skall : skP skc.1.w skc.1.mean skc.1.mg skc.1.mb skc.1.dp skc.1.un skc.1.gd skc.1.cn skc.1.cs skc.1.a skc.1.ccd skc.1.cl skc.1.outer skc.1.A₀ skc.1.base skc.1.h₀ skc.1.L skc.1.m skc.1.s skc.1.Q skc.1.E skc.2.1 skc.2.2.1 skc.2.2.2.1 skc.2.2.2.2.1 skc.2.2.2.2.2.1 skc.2.2.2.2.2.2.1 skc.2.2.2.2.2.2.2.1 skc.2.2.2.2.2.2.2.2.1 skc.2.2.2.2.2.2.2.2.2.1 skc.2.2.2.2.2.2.2.2.2.2.1 skc.2.2.2.2.2.2.2.2.2.2.2.1 skc.2.2.2.2.2.2.2.2.2.2.2.2.1 skc.2.2.2.2.2.2.2.2.2.2.2.2.2.1 skc.2.2.2.2.2.2.2.2.2.2.2.2.2.2.1 skc.2.2.2.2.2.2.2.2.2.2.2.2.2.2.2.1 := by
  with_unfolding_all exact skmain
end req_octets_specK
theorem req_octets_spec {w : World} {mean : ExcName → Option Value} {mg mb : Str → Option Value} (c d m1 m2 : Addr) (n1 n2 : Nat) (k1 k2 k3 tp : Tok) (cmds : List Cmd) (words : List (List UInt8)) (pack : List UInt8) (vs us : List Value)
    (hc : small cmds) (hw : words.length ≤ 100 ∧ ∀ x ∈ words, x.length ≤ 100) (hpk : pack.length ≤ 1000) (hus : Rel2 TxtV (words.map tx) us) : Spec w mean mg mb 5 208 [.ref c]
    (fun h => Stand [(c, instObj 219 d), (d, reqD w k1 k2 k3 (.ref m1) (.ref m2) (.bytes pack.toArray tp)), (m1, listOf vs.toArray n1), (m2, listOf us.toArray n2)] h ∧ Rel2 (CmdAt w h) cmds vs)
    (fun r tl => tl = [] ∧ BytV ((rowsL (joinL [32] words) cmds).flatten ++ [48, 48, 48, 48] ++ pack) r) False := by
  intro dp un gd cn cs a ccd cl outer A₀ base h₀ L m s Q E
  exact pick_spec (P := fun p : Cx × (Addr) × (Addr) × (Addr) × (Addr) × (Nat) × (Nat) × (Tok) × (Tok) × (Tok) × (Tok) × (List Cmd) × (List (List UInt8)) × (List UInt8) × (List Value) × (List Value) × Unit => req_octets_specK.skP p.1.w p.1.mean p.1.mg p.1.mb p.1.dp p.1.un p.1.gd p.1.cn p.1.cs p.1.a p.1.ccd p.1.cl p.1.outer p.1.A₀ p.1.base p.1.h₀ p.1.L p.1.m p.1.s p.1.Q p.1.E p.2.1 p.2.2.1 p.2.2.2.1 p.2.2.2.2.1 p.2.2.2.2.2.1 p.2.2.2.2.2.2.1 p.2.2.2.2.2.2.2.1 p.2.2.2.2.2.2.2.2.1 p.2.2.2.2.2.2.2.2.2.1 p.2.2.2.2.2.2.2.2.2.2.1 p.2.2.2.2.2.2.2.2.2.2.2.1 p.2.2.2.2.2.2.2.2.2.2.2.2.1 p.2.2.2.2.2.2.2.2.2.2.2.2.2.1 p.2.2.2.2.2.2.2.2.2.2.2.2.2.2.1 p.2.2.2.2.2.2.2.2.2.2.2.2.2.2.2.1) req_octets_specK.skall (⟨w, mean, mg, mb, dp, un, gd, cn, cs, a, ccd, cl, outer, A₀, base, h₀, L, m, s, Q, E, default, default⟩, c, d, m1, m2, n1, n2, k1, k2, k3, tp, cmds, words, pack, vs, us, ()) hc hw hpk hus
end
section
variable {w : World} {mean : ExcName → Option Value} {mg mb : Str → Option Value}
end
end
section
set_option maxHeartbeats 4000000
section
variable {w : World} {mean : ExcName → Option Value} {mg mb : Str → Option Value}
/-- the rows of a request's items -/
noncomputable def itemRows : List Item → Option (List (List UInt8))
  | [] => some []
  | .inl _ :: _ => none
  | .inr b :: r => (itemRows r).map (rowL b :: ·)
noncomputable def cut0 (r : List UInt8) : List UInt8 × List UInt8 := match r.findIdx? (· == 0) with
  | some i => (r.take i, r.drop (i + 1))
  | none => (r, [])
noncomputable def firstCut : List (List UInt8) → List (List UInt8) × List UInt8
  | [] => ([], [])
  | r :: rest => ((cut0 r).1 :: rest, (cut0 r).2)
theorem tx_inj : ∀ (a b : UInt8), a.toNat = b.toNat → a = b := fun a b h => UInt8.toNat_inj.mp h
theorem splitL_tx (ws : List UInt8) : splitL 32 (tx ws) = (splitL 32 ws).map tx := splitL_map (fun c : UInt8 => c.toNat) tx_inj 32 ws
noncomputable abbrev Req := List Cmd × List (List UInt8) × List UInt8
noncomputable def rds (n : Nat) : List (List UInt8) → Option (List Cmd)
  | [] => some []
  | r :: rest => match rd r n with
    | none => none
    | some c => (rds n rest).map (c :: ·)
noncomputable def rq (o : List UInt8) (n : Nat) : Option Req := match rp o with
  | none => none
  | some (its, p) => if its.getLast? = some (.inl 0) then match itemRows its.dropLast with
      | none => none
      | some rows => match rds n (firstCut rows).1 with
        | none => none
        | some cmds => some (cmds, splitW (firstCut rows).2, o.drop p)
    else none
theorem Rel2.unsnoc {α : Type} {G : α → Value → Prop} {a : α} : ∀ {l : List α} {vs : List Value}, Rel2 G (l ++ [a]) vs → ∃ vs' v, vs = vs' ++ [v] ∧ Rel2 G l vs' ∧ G a v
  | [], [v], x => ⟨[], v, rfl, trivial, x.1⟩
  | [], _ :: _ :: _, x => x.2.elim
  | b :: l, v :: vs, x => by
    obtain ⟨vs', v', rfl, h1, h2⟩ := Rel2.unsnoc (l := l) (vs := vs) x.2
    exact ⟨v :: vs', v', rfl, ⟨x.1, h1⟩, h2⟩
theorem frames_in {A : Around} {base h₀ : Heap} {outer : List Env} (B : Below A base outer h₀) : ∀ b ∈ outer.filterMap (·.frame), ∃ o, h₀.get? b = some o := fun b hb => by
  obtain ⟨env, he, hf⟩ := List.mem_filterMap.mp hb
  obtain ⟨L₁, o₁, hf₁, ho₁⟩ := funFrames_in B.frames env he
  rw [hf₁] at hf
  cases hf
  exact ⟨o₁, ho₁⟩
theorem rpF_le : ∀ (f : Nat) (o : List UInt8) (p : Nat) (l : List Item) (q : Nat), rpF f o p = some (l, q) → p ≤ o.length → p + l.length ≤ q ∧ q ≤ o.length
  | 0, o, p, l, q, h, hp => by cases h; simp; exact hp
  | f + 1, o, p, l, q, h, hp => by
    rw [rpF] at h
    split at h
    · cases hw : wl o p with
      | none => rw [hw] at h; cases h
      | some r =>
        obtain ⟨it, p'⟩ := r
        rw [hw] at h
        have hlt := wl_lt hw
        dsimp only at h
        split at h
        · cases h; simp; omega
        · cases hr : rpF f o p' with
          | none => rw [hr] at h; cases h
          | some r =>
            obtain ⟨l', q'⟩ := r
            rw [hr] at h
            cases h
            have := rpF_le f o p' l' q' hr hlt.2
            simp; omega
    · cases h; simp; exact hp
theorem rp_le {o : List UInt8} {l : List Item} {q : Nat} (h : rp o = some (l, q)) : l.length ≤ o.length := by
  have := rpF_le _ _ _ _ _ h (Nat.zero_le _)
  omega
theorem itemRows_none : ∀ {l : List Item} {k : Nat}, .inl k ∈ l → itemRows l = none
  | .inl _ :: _, _, _ => rfl
  | .inr b :: r, k, h => by
    rcases List.mem_cons.mp h with h | h
    · cases h
    · rw [itemRows, itemRows_none h]; rfl
theorem itemRows_some : ∀ {l : List Item} {ys : List Value}, Rel2 (fun it y => ∃ b, it = .inr b ∧ BytV (rowL b) y) l ys → ∃ rows, itemRows l = some rows ∧ Rel2 BytV rows ys
  | [], [], _ => ⟨[], rfl, trivial⟩
  | it :: l, y :: ys, h => by
    obtain ⟨b, rfl, hb⟩ := h.1
    obtain ⟨rows, hr, h2⟩ := itemRows_some h.2
    exact ⟨rowL b :: rows, by rw [itemRows, hr]; rfl, hb, h2⟩
theorem wl_item {o : List UInt8} {p : Nat} {l : List UInt8} {p' : Nat} (h : wl o p = some (.inr l, p')) : l.length ≤ o.length := by
  unfold wl at h
  split at h
  · cases h
  · split at h
    · cases h
    · split at h
      · cases h
      · split at h
        · cases h
        · split at h
          · cases h
          · split at h
            · cases h
            · cases h
              rw [List.length_take, List.length_drop]; omega
theorem rpF_item : ∀ (f : Nat) (o : List UInt8) (p : Nat) (l : List Item) (q : Nat), rpF f o p = some (l, q) → ∀ b, .inr b ∈ l → b.length ≤ o.length
  | 0, o, p, l, q, h, b, hb => by cases h; cases hb
  | f + 1, o, p, l, q, h, b, hb => by
    rw [rpF] at h
    split at h
    · cases hw : wl o p with
      | none => rw [hw] at h; cases h
      | some r =>
        obtain ⟨it, p'⟩ := r
        rw [hw] at h
        dsimp only at h
        split at h
        · cases h
          rw [List.mem_singleton] at hb
          subst hb
          exact wl_item hw
        · cases hr : rpF f o p' with
          | none => rw [hr] at h; cases h
          | some r =>
            obtain ⟨l', q'⟩ := r
            rw [hr] at h
            cases h
            rcases List.mem_cons.mp hb with hb | hb
            · subst hb; exact wl_item hw
            · exact rpF_item f o p' l' q' hr b hb
    · cases h; cases hb
theorem rp_item {o : List UInt8} {l : List Item} {q : Nat} (h : rp o = some (l, q)) {b : List UInt8} (hb : .inr b ∈ l) {B : Nat} (hB : o.length ≤ B) : b.length ≤ B := Nat.le_trans (rpF_item _ _ _ _ _ h b hb) hB
theorem rowL_le (b : List UInt8) : (rowL b).length ≤ b.length := by
  unfold rowL
  split
  · rw [List.length_take]; omega
  · exact Nat.le_refl _
theorem itemRows_len : ∀ {l : List Item} {rows : List (List UInt8)} {B : Nat}, itemRows l = some rows → (∀ b, .inr b ∈ l → b.length ≤ B) → ∀ r ∈ rows, r.length ≤ B
  | [], rows, B, h, _, r, hr => by cases h; cases hr
  | .inl _ :: _, rows, B, h, _, _, _ => by cases h
  | .inr b :: l, rows, B, h, hb, r, hr => by
    rw [itemRows] at h
    cases hl : itemRows l with
    | none => rw [hl] at h; cases h
    | some rs =>
      rw [hl] at h
      cases h
      rcases List.mem_cons.mp hr with rfl | hr
      · exact Nat.le_trans (rowL_le b) (hb b List.mem_cons_self)
      · exact itemRows_len hl (fun b' hb' => hb b' (List.mem_cons_of_mem _ hb')) r hr
theorem filt_take {α : Type} {p : α → Bool} {xs : List α} {i : Nat} {a : α} (h : xs[i]? = some a) : (xs.take (i + 1)).filter p = (xs.take i).filter p ++ (if p a = true then [a] else []) := by
  rw [List.take_add_one, h, List.filter_append]
  congr 1
  simp [List.filter]
  cases p a <;> rfl
theorem cut0_le (r : List UInt8) : (cut0 r).1.length ≤ r.length ∧ (cut0 r).2.length ≤ r.length := by
  unfold cut0
  split
  · simp only [List.length_take, List.length_drop]; omega
  · exact ⟨Nat.le_refl _, Nat.zero_le _⟩
theorem firstCut_le {rows : List (List UInt8)} {B : Nat} (h : ∀ r ∈ rows, r.length ≤ B) : (firstCut rows).2.length ≤ B ∧ ∀ r ∈ (firstCut rows).1, r.length ≤ B := by
  cases rows with
  | nil => exact ⟨Nat.zero_le _, fun r hr => by cases hr⟩
  | cons r rest =>
    refine ⟨Nat.le_trans (cut0_le r).2 (h r List.mem_cons_self), fun x hx => ?_⟩
    rcases List.mem_cons.mp hx with rfl | hx
    · exact Nat.le_trans (cut0_le r).1 (h r List.mem_cons_self)
    · exact h x (List.mem_cons_of_mem _ hx)
theorem rds_snoc {n : Nat} {r : List UInt8} {c : Cmd} (hr : rd r n = some c) : ∀ {l : List (List UInt8)} {cs : List Cmd}, rds n l = some cs → rds n (l ++ [r]) = some (cs ++ [c])
  | [], cs, h => by cases h; show (match rd r n with | none => none | some c => _) = _; rw [hr]; rfl
  | a :: l, cs, h => by
    rw [rds] at h
    rw [List.cons_append, rds]
    cases ha : rd a n with
    | none => rw [ha] at h; cases h
    | some c' =>
      rw [ha] at h
      dsimp only at h ⊢
      cases hl : rds n l with
      | none => rw [hl] at h; cases h
      | some cs' => rw [hl] at h; cases h; rw [rds_snoc hr hl]; rfl
theorem rds_none {n : Nat} {r : List UInt8} (hr : rd r n = none) : ∀ {l : List (List UInt8)}, r ∈ l → rds n l = none
  | a :: l, h => by
    rw [rds]
    rcases List.mem_cons.mp h with rfl | h
    · rw [hr]
    · cases ha : rd a n with
      | none => rfl
      | some c => dsimp only; rw [rds_none hr h]; rfl
noncomputable def CmdIn (w : World) (objs : List (Addr × Obj)) (cmd : Cmd) (v : Value) : Prop := ∃ c d k1 k2 k3 t1 t2 t3, v = .ref c ∧ (c, instObj 181 d) ∈ objs ∧ (d, cmdD w k1 k2 k3 (.bytes cmd.1.toArray t1) (.bytes cmd.2.1.toArray t2) (.str (S (tx cmd.2.2)) t3)) ∈ objs
theorem CmdIn.mono {objs objs' : List (Addr × Obj)} (h : ∀ p ∈ objs, p ∈ objs') {cmd : Cmd} {v : Value} : CmdIn w objs cmd v → CmdIn w objs' cmd v := by
  rintro ⟨c, d, k1, k2, k3, t1, t2, t3, h1, h2, h3⟩
  exact ⟨c, d, k1, k2, k3, t1, t2, t3, h1, h _ h2, h _ h3⟩
/-- what PushRequest.read hands back -/
noncomputable def ReqV (w : World) (q : Req) (r : Value) (tl : List (Addr × Obj)) : Prop :=
  ∃ c d k1 k2 k3 t lc lw nc nw cvs wvs objs, r = .ref c ∧ Rel2 (fun wd v => TxtV (tx wd) v) q.2.1 wvs ∧ Rel2 (CmdIn w objs) q.1 cvs ∧
    tl = (lw, listOf wvs.toArray nw) :: (lc, listOf cvs.toArray nc) :: (c, instObj 219 d) :: (d, reqD w k1 k2 k3 (.ref lc) (.ref lw) (.bytes q.2.2.toArray t)) :: objs
theorem splitL_le {α : Type} [DecidableEq α] (c : α) : ∀ l : List α, (splitL c l).length ≤ l.length + 1
  | [] => Nat.le_refl _
  | x :: r => by
    have ih := splitL_le c r
    rw [splitL]
    split
    · simp; exact ih
    · split
      · rename_i p q e
        rw [e] at ih
        simp at ih ⊢; omega
      · simp
theorem strs_rel : ∀ (ls : List (List UInt8)) (l : List (Str × Tok)), l.map (·.1) = (ls.map tx).map S → Rel2 (fun (wd : List UInt8) v => TxtV (tx wd) v) ls (strValues l)
  | [], [], _ => trivial
  | [], _ :: _, h => by cases h
  | _ :: _, [], h => by cases h
  | a :: ls, (x, t) :: l, h => by
    simp only [List.map_cons, List.cons.injEq] at h
    obtain ⟨rfl, h⟩ := h
    exact ⟨⟨t, rfl⟩, strs_rel ls l h⟩
theorem req_turn {h₀ h : Heap} {L : Addr} {p1 p2 i c d b1 b2 b3 b4 : Addr × Obj} {objs : List (Addr × Obj)} (N : News h₀ L h ([p1, p2] ++ (i :: c :: d :: b1 :: b2 :: b3 :: b4 :: objs))) : News h₀ L h (i :: c :: d :: b1 :: b2 :: b3 :: b4 :: (objs ++ [p1, p2])) :=
  news_weak N fun p hp => by
    simp only [List.mem_cons, List.mem_append, List.not_mem_nil, or_false] at hp ⊢
    rcases hp with h | h | h | h | h | h | h | h | h | h <;> simp [h]
theorem off_turn {I C D : Addr} {i c d : Obj} {p1 p2 b1 b2 b3 b4 : Addr × Obj} {objs : List (Addr × Obj)} (off : Off3 I C D (b1 :: b2 :: b3 :: b4 :: objs)) (hsep : ∀ p ∈ [p1, p2], ∀ q ∈ ((I, i) :: (C, c) :: (D, d) :: b1 :: b2 :: b3 :: b4 :: objs), p.1 ≠ q.1) : Off3 I C D (b1 :: b2 :: b3 :: b4 :: (objs ++ [p1, p2])) :=
  Off3.of fun p hp => by
    have hp' : p ∈ (b1 :: b2 :: b3 :: b4 :: objs) ∨ p ∈ [p1, p2] := by
      simp only [List.mem_cons, List.mem_append, List.not_mem_nil, or_false] at hp ⊢
      rcases hp with h | h | h | h | h | h | h <;> simp [h]
    rcases hp' with hp | hp
    · exact off.mem p hp
    · exact ⟨hsep p hp (I, i) (by simp), hsep p hp (C, c) (by simp), hsep p hp (D, d) (by simp)⟩
theorem req_done {h₀ h : Heap} {L : Addr} {p1 p2 p3 p4 b1 b2 b3 b4 b5 : Addr × Obj} {objs : List (Addr × Obj)} (N : News h₀ L h (p1 :: p2 :: p3 :: p4 :: b1 :: b2 :: b3 :: b4 :: b5 :: objs)) : ∀ p ∈ p1 :: p2 :: p3 :: p4 :: objs, h.get? p.1 = some p.2 ∧ h₀.get? p.1 = none := fun p hp => by
  have := N p (by
    simp only [List.mem_cons] at hp ⊢
    rcases hp with h | h | h | h | h <;> simp [h])
  exact ⟨this.1, this.2.2⟩
end
section
namespace req_read_specK
noncomputable def skP (w : World) (mean : ExcName → Option Value) (mg : Str → Option Value) (mb : Str → Option Value) (dp : Nat) (un : Nat) (gd : Option (List Code)) (cn : Str) (cs : Scope) (a : Addr) (ccd : Value) (cl : List (Str × Addr)) (outer : List Env) (A₀ : Around) (base : Heap) (h₀ : Heap) (L : Addr) (m : Str → Option Value) (s : Shared) (Q : Value → Shared → Prop) (E : Value → Shared → Prop) (o : List UInt8) (tb : Tok) (unT : Tok) (n : Nat) : Prop :=
  (o.length ≤ 100000) → (n ≤ 1000) → SpecAt w mean mg mb dp un gd cn cs a ccd cl outer A₀ base h₀ L m s Q E 7 213 [.bytes o.toArray tb, .int (n : Int) unT] (fun _ => True)
    (fun r tl => ∃ q, rq o n = some q ∧ ReqV w q r tl) (rq o n = none)
noncomputable def skc : Cx × (List UInt8) × (Tok) × (Tok) × (Nat) × Unit := pick ⟨(cx0, default, default, default, default, ())⟩ (fun p : Cx × (List UInt8) × (Tok) × (Tok) × (Nat) × Unit => skP p.1.w p.1.mean p.1.mg p.1.mb p.1.dp p.1.un p.1.gd p.1.cn p.1.cs p.1.a p.1.ccd p.1.cl p.1.outer p.1.A₀ p.1.base p.1.h₀ p.1.L p.1.m p.1.s p.1.Q p.1.E p.2.1 p.2.2.1 p.2.2.2.1 p.2.2.2.2.1)
@[irreducible] noncomputable def w : World := skc.1.w
@[irreducible] noncomputable def mean : ExcName → Option Value := skc.1.mean
@[irreducible] noncomputable def mg : Str → Option Value := skc.1.mg
@[irreducible] noncomputable def mb : Str → Option Value := skc.1.mb
@[irreducible] noncomputable def dp : Nat := skc.1.dp
@[irreducible] noncomputable def un : Nat := skc.1.un
@[irreducible] noncomputable def gd : Option (List Code) := skc.1.gd
@[irreducible] noncomputable def cn : Str := skc.1.cn
@[irreducible] noncomputable def cs : Scope := skc.1.cs
@[irreducible] noncomputable def a : Addr := skc.1.a
@[irreducible] noncomputable def ccd : Value := skc.1.ccd
@[irreducible] noncomputable def cl : List (Str × Addr) := skc.1.cl
@[irreducible] noncomputable def outer : List Env := skc.1.outer
@[irreducible] noncomputable def A₀ : Around := skc.1.A₀
@[irreducible] noncomputable def base : Heap := skc.1.base
@[irreducible] noncomputable def h₀ : Heap := skc.1.h₀
@[irreducible] noncomputable def L : Addr := skc.1.L
@[irreducible] noncomputable def m : Str → Option Value := skc.1.m
@[irreducible] noncomputable def s : Shared := skc.1.s
@[irreducible] noncomputable def Q : Value → Shared → Prop := skc.1.Q
@[irreducible] noncomputable def E : Value → Shared → Prop := skc.1.E
@[irreducible] noncomputable def o : List UInt8 := skc.2.1
@[irreducible] noncomputable def tb : Tok := skc.2.2.1
@[irreducible] noncomputable def unT : Tok := skc.2.2.2.1
@[irreducible] noncomputable def n : Nat := skc.2.2.2.2.1
noncomputable def en : { P : Addr → Heap → Tok → Prop // (∀ L' h' tk', P L' h' tk') → skP w mean mg mb dp un gd cn cs a ccd cl outer A₀ base h₀ L m s Q E o tb unT n } :=
  ⟨_, by
  intro hP hb hn B F X T hk hd hu hp hret hexc
  refine wpAny_call ?_
  k_dflt k_extra "enC"⟩
noncomputable def enc : Addr × Heap × Tok := pick ⟨default⟩ fun p => en.1 p.1 p.2.1 p.2.2
@[irreducible] noncomputable def L' : Addr := enc.1
@[irreducible] noncomputable def h' : Heap := enc.2.1
@[irreducible] noncomputable def tk' : Tok := enc.2.2
theorem enall (q : en.1 L' h' tk') : ∀ a b c, en.1 a b c := by
  have q1 : (fun p : Addr × Heap × Tok => en.1 p.1 p.2.1 p.2.2) (pick ⟨default⟩ fun p => en.1 p.1 p.2.1 p.2.2) := by with_unfolding_all exact q
  exact fun a b c => pick_spec (P := fun p : Addr × Heap × Tok => en.1 p.1 p.2.1 p.2.2) (ne := ⟨default⟩) q1 (a, b, c)
noncomputable def skmain_sb1 : { pQ : (Obj) → (Heap) → (Nat) → (Addr) → (Addr) → (Tok) → (Addr) → (Heap) → (List Item) → (List Value) → (Tok) → (List Value) → (Addr) → (Nat) → (List (List UInt8)) → (Addr) → (Heap) → (Nat) → (Array Value) → (Tok) → (Option Value) → (Obj) → (Nat) → Prop // (∀ (z3 : Obj) (z5 : Heap) (p' : Nat) (t : Addr) (D : Addr) (u : Tok) (z9 : Addr) (z10 : Heap) (its' : List Item) (ys' : List Value) (tn : Tok) (ys2 : List Value) (D2 : Addr) (z13 : Nat) (rows : List (List UInt8)) (z14 : Addr) (h : Heap) (tk : Nat) (ys3 : Array Value) (t3 : Tok) (oc : Option Value) (o3 : Obj) (n3 : Nat), pQ z3 z5 p' t D u z9 z10 its' ys' tn ys2 D2 z13 rows z14 h tk ys3 t3 oc o3 n3) → (skP w mean mg mb dp un gd cn cs a ccd cl outer A₀ base h₀ L m s Q E o tb unT n) } := ⟨_, by
  intro hP_f
  intro hb hn B F X T hk hd hu hp hret hexc
  refine en.2 (enall ?_) hb hn B F X T hk hd hu hp hret hexc
  intro _ _ _ Y' _ _ _; k_cells Y'
  (try dsimp only)
  k_extra "k_steps"
  refine Spec.use (read_pkts_spec o _ hb) (by k_asm) (by k_asm) (by k_asm) (by k_asm) (by k_asm) rfl (by k_extra "ktr_room") (by k_extra "ktr_room") trivial ?_ ?_
  · rintro r tl h' tk' F' N' hsep hst ⟨its, p', t, D, ys, q, u, hrp, hrel, rfl, rfl, rfl⟩
    dsimp only [List.cons_append, List.nil_append] at N' hsep
    have hout : ∀ b ∈ (envX cn cs L a ccd cl :: outer).filterMap (·.frame), ∃ o, s.heap.get? b = some o := frames_in (by assumption)
    k_extra "k_steps"
    rename_i Nx lx
    refine eq_empty (xs := ys) (News.isList Nx (by k_mem)) (News.isList (items := #[]) Nx (by k_mem)) (by k_extra "ktr_room") ?_
    rcases List.eq_nil_or_concat its with rfl | ⟨its', last, rfl⟩
    · have hy : ys = [] := List.length_eq_zero_iff.mp hrel.length
      subst hy
      k_extra "k_steps"
      have hq : rq o n = none := by rw [rq, hrp]; rfl
      with_reducible refine hexc hq _ _ _ (by assumption)
    · rw [List.concat_eq_append] at hrel hrp
      obtain ⟨ys', y, rfl, hrel', hy⟩ := hrel.unsnoc
      have hne : (ys' ++ [y]).isEmpty = false := by simp
      rw [hne]
      k_extra "k_steps"
      refine item_last (News.isList (by k_asm) (by k_mem)) ?_
      cases last with
      | inr l =>
        obtain ⟨tn, rfl⟩ := hy
        k_extra "k_steps"
        have hq : rq o n = none := by rw [rq, hrp]; simp
        with_reducible refine hexc hq _ _ _ (by assumption)
      | inl k =>
        obtain ⟨tn, rfl⟩ := hy
        k_extra "k_steps"
        · have hk : k ≠ 0 := by omega
          have hq : rq o n = none := by rw [rq, hrp]; simp [hk]
          with_reducible refine hexc hq _ _ _ (by assumption)
        · have hk : k = 0 := by omega
          subst hk
          k_extra "k_steps"
          k_dflt (refine comp_expr (exc := itemRows its' = none) (by k_asm) rfl rfl (fun _ => hout) (by rfl) (by decide) (by rfl) (by decide) (by rfl) ?_)
          k_extra "k_steps"
          have hlen : (ys' ++ [Value.int ((0 : Nat) : Int) tn]).length ≤ 100000 := by
            have := (rp_le hrp)
            rw [hrel.length]; omega
          refine slice_list (s := ⟨_, _, _, _, _⟩) (by k_asm) (by k_asm) (News.isList (by k_asm) (by k_mem)) .none (.int _ _) (fun h' F' N' => ?_) (hsz := by rw [sizeLine_eq, List.size_toArray]; omega)
          rw [show (some (-1 : Int)) = some (-((1 : Nat) : Int)) from rfl, slicePick_butLast _ 1 (Nat.le_refl _)] at N'
          simp only [List.size_toArray, List.length_append, List.length_cons, List.length_nil, Nat.zero_add, Nat.add_sub_cancel, List.take_left] at N'
          k_extra "k_steps"
          have hlen2 : ys'.length ≤ 100000 := by rw [List.length_append] at hlen; omega
          have hlen3 : its'.length ≤ 100000 := by rw [← hrel'.length]; exact hlen2
          have hread : rq o n = match itemRows its' with
            | none => none
            | some rows => match rds n (firstCut rows).1 with
              | none => none
              | some cmds => some (cmds, splitW (firstCut rows).2, o.drop p') := by
            rw [rq, hrp]
            simp only [List.getLast?_append, List.getLast?_singleton, Option.some_or, if_true, List.dropLast_concat]
          refine CompGo.rel (fun it y => ∃ b, it = .inr b ∧ BytV (rowL b) y) (IterOf.rel hrel' (iter_list (ol := listOf ys'.toArray 0) rfl (N' (_, listOf ys'.toArray 0) (by k_mem)).1 rfl rfl)) (by k_asm) N' (fun p hp => .inr (by rw [List.mem_singleton.mp hp]; k_mem)) (by rw [sizeLine_eq]; omega) ?_ ?_ ?_
          · rintro it v C oC m₂ hc hv hn hxx I oI D ys h tk Q' E' F' N' off ne hret' hexc'
            cases it with
            | inl k =>
              obtain ⟨u9, rfl⟩ := hv
              k_extra "k_steps"
              refine Spec.use (row_int_spec (k : Int) _) (by k_asm) (by k_asm) (by k_asm) (by k_asm) (by k_asm) rfl (by k_extra "ktr_room") (by k_extra "ktr_room") trivial ?_ ?_
              · rintro r tl h' tk' F' N' hsep hst hf
                exact hf.elim
              · intro _ e h' tk' R'
                exact hexc' (itemRows_none hc) _ _ _ _ F' (N' (C, oC) (by k_mem)).1 R'
            | inr l =>
              obtain ⟨u9, rfl⟩ := hv
              k_extra "k_steps"
              refine Spec.use (row_spec l _ (rp_item hrp (List.mem_append_left _ hc) hb)) (by k_asm) (by k_asm) (by k_asm) (by k_asm) (by k_asm) rfl (by k_extra "ktr_room") (by k_extra "ktr_room") trivial ?_ (fun x => x.elim)
              rintro r tl h' tk' F' N' hsep hst hst'
              obtain ⟨rfl, u8, rfl⟩ := hst'
              k_extra "k_steps"
              exact hret' _ _ _ F' N' ⟨l, rfl, _, rfl⟩
          · intro ys2 hr2 D2 h tk F' N' o1
            obtain ⟨rows, hrows, hr3⟩ := itemRows_some hr2
            rw [hrows] at hread
            dsimp only at hread
            have ho7 := o1.2.2.2.2.1
            k_extra "k_steps"
            rename_i Fz Nz
            refine mono_named7 Fz Nz (fun m Lz cz f s₃ => f = .next ∧ ∃ h tk ys3 t3 oc o3 n3, s₃ = { s with heap := h, toks := tk } ∧ Fr s.heap Lz h (fun y => if y = Str.ofString "cut" then oc else if y = Str.ofString "words" then some (.bytes (firstCut rows).2.toArray t3) else m y) ∧ News s.heap Lz h [(D2, o3), cz] ∧ o3.cls = .type "list" ∧ o3.data = .seq ys3 n3 ∧ Rel2 BytV (firstCut rows).1 ys3.toList) ?_ ?_
            · intro R hR
              have Ny := news27 Nz
              clear Nz hread
              first | walk1 | (dsimp only; walk1)
              k_extra "k_steps"
              rename_i Nq lq
              refine ne_empty (xs := ys2) (News.isList Nq (by k_mem)) (News.isList (items := #[]) Nq (by k_mem)) (by k_extra "ktr_room") ?_
              cases rows with
              | nil =>
                have hy : ys2 = [] := List.length_eq_zero_iff.mp hr3.length
                subst hy
                k_extra "k_steps"
                refine hR _ _ ⟨rfl, _, _, #[], tk, none, lst [], 0, rfl, fr_congr (by k_asm) ?_, news_weak Nq (by simp), rfl, rfl, trivial⟩
                intro y
                (try dsimp only [upd])
                by_cases h1 : y = Str.ofString "cut"
                · subst h1; rfl
                · by_cases h2 : y = Str.ofString "words"
                  · subst h2; rfl
                  · simp only [h1, h2, if_false]
              | cons r rest =>
                obtain ⟨v1, vr, rfl⟩ : ∃ v1 vr, ys2 = v1 :: vr := by
                  match ys2, hr3 with
                  | v :: vr, _ => exact ⟨v, vr, rfl⟩
                obtain ⟨⟨tr, rfl⟩, hrest⟩ := hr3
                rw [show (!(Value.bytes r.toArray tr :: vr).isEmpty) = true from rfl]
                k_extra "k_steps"
                have hD2 := (Nq (D2, lst (Value.bytes r.toArray tr :: vr)) (by k_mem)).1
                have hvr : (Value.bytes r.toArray tr :: vr).toArray.size ≤ 1000000 := by
                  have := hr2.length
                  simp only [List.size_toArray]; omega
                have hr : r.length ≤ 100000 := itemRows_len hrows (fun l hl => rp_item hrp (List.mem_append_left _ hl) hb) r List.mem_cons_self
                refine item_of (T := "list") (k := 0) (v := .bytes r.toArray tr) (by exact hD2) (by exact .inl rfl) (by rfl) (by rfl) (by rfl) (by rfl) (by exact hvr) ?_
                k_extra "k_steps"
                refine find_L fun t' k' => ?_
                cases hf : r.findIdx? (· == 0) with
                | none =>
                  dsimp only
                  k_extra "k_steps"
                  refine hR _ _ ⟨rfl, _, _, (Value.bytes r.toArray tr :: vr).toArray, tk, some (.int (-1) t'), lst (Value.bytes r.toArray tr :: vr), _, rfl, fr_congr (by k_asm) ?_, news_weak (by k_asm) (by simp), rfl, rfl, ?_⟩
                  · intro y
                    (try dsimp only [upd])
                    by_cases h1 : y = Str.ofString "cut"
                    · simp only [h1, if_true]
                    · by_cases h2 : y = Str.ofString "words"
                      · subst h2; simp only [firstCut, cut0, hf]; rfl
                      · simp only [h1, h2, if_false]
                  · show Rel2 BytV (firstCut (r :: rest)).1 (Value.bytes r.toArray tr :: vr)
                    simp only [firstCut, cut0, hf]
                    exact ⟨⟨_, rfl⟩, hrest⟩
                | some i =>
                  dsimp only
                  k_extra "k_steps"
                  refine item_of (T := "list") (k := 0) (v := .bytes r.toArray tr) (o := lst (Value.bytes r.toArray tr :: vr)) (by exact News.get (by k_asm) (by k_mem)) (by exact .inl rfl) (by rfl) (by rfl) (by rfl) (by rfl) (by exact hvr) ?_
                  k_extra "k_steps"
                  refine item_of (T := "list") (k := 0) (v := .bytes r.toArray tr) (o := lst (Value.bytes r.toArray tr :: vr)) (by exact News.get (by k_asm) (by k_mem)) (by exact .inl rfl) (by rfl) (by rfl) (by rfl) (by rfl) (by exact hvr) ?_
                  k_extra "k_steps"
                  rename_i Fq2 Nq2
                  refine' hR _ _ ⟨rfl, _, _, _, ?tkw, some (.int (i : Int) t'), _, _, rfl, fr_congr Fq2 ?_, news34 Nq2, rfl, rfl, ?_⟩
                  rotate_left
                  · intro y
                    (try dsimp only [upd])
                    by_cases h1 : y = Str.ofString "cut"
                    · subst h1; rfl
                    · by_cases h2 : y = Str.ofString "words"
                      · subst h2
                        have e : cutL r (some ((i : Int) + 1)) none = r.drop (i + 1) := cutL_fr (by omega)
                        simp only [firstCut, cut0, hf, e, if_true]
                        rw [if_neg (by decide)]
                      · simp only [h1, h2, if_false]
                  · show Rel2 BytV (firstCut (r :: rest)).1 (_ :: vr)
                    simp only [firstCut, cut0, hf]
                    rw [cutL_to]
                    exact ⟨⟨_, rfl⟩, hrest⟩
            · rintro f s₃ ⟨rfl, h, tk, ys3, t3, oc, o3, n3, rfl, F3, N3, hc3, hd3, hr4⟩
              clear Nz Fz
              rename_i z0 z1 z2 z3 z4 z5 z6 z7 z8 z9 z10 z11 z12 z13 z14 z15 z16 z17 z18 z19
              revert hb hn B F X T hk hd hu hp hret hexc z0 z1 z2 z4 hst hout lx hrel' hrp hsep hne hrel z11 hlen hlen2 hlen3 hr2 o1 hread hrows hr3 ho7 z16 F3 N3 hc3 hd3 hr4; exact hP_f z3 z5 p' t D u z9 z10 its' ys' tn ys2 D2 z13 rows z14 h tk ys3 t3 oc o3 n3
          · intro hx ea hE mE h' tk' FE RE
            k_extra "k_steps"
            have hq : rq o n = none := by rw [hread, hx]
            with_reducible refine hexc hq _ _ _ (by assumption)
  · intro hx e h' tk' R'
    k_extra "k_steps"
    have hq : rq o n = none := by rw [rq, hx]
    with_reducible refine hexc hq _ _ _ (by assumption)⟩
namespace skmain_f
noncomputable def c0 : (Obj) × (Heap) × (Nat) × (Addr) × (Addr) × (Tok) × (Addr) × (Heap) × (List Item) × (List Value) × (Tok) × (List Value) × (Addr) × (Nat) × (List (List UInt8)) × (Addr) × (Heap) × (Nat) × (Array Value) × (Tok) × (Option Value) × (Obj) × (Nat) × Unit := pick ⟨⟨default, default, default, default, default, default, default, default, default, default, default, default, default, default, default, default, default, default, default, default, default, default, default, ()⟩⟩ fun q => skmain_sb1.1 q.1 q.2.1 q.2.2.1 q.2.2.2.1 q.2.2.2.2.1 q.2.2.2.2.2.1 q.2.2.2.2.2.2.1 q.2.2.2.2.2.2.2.1 q.2.2.2.2.2.2.2.2.1 q.2.2.2.2.2.2.2.2.2.1 q.2.2.2.2.2.2.2.2.2.2.1 q.2.2.2.2.2.2.2.2.2.2.2.1 q.2.2.2.2.2.2.2.2.2.2.2.2.1 q.2.2.2.2.2.2.2.2.2.2.2.2.2.1 q.2.2.2.2.2.2.2.2.2.2.2.2.2.2.1 q.2.2.2.2.2.2.2.2.2.2.2.2.2.2.2.1 q.2.2.2.2.2.2.2.2.2.2.2.2.2.2.2.2.1 q.2.2.2.2.2.2.2.2.2.2.2.2.2.2.2.2.2.1 q.2.2.2.2.2.2.2.2.2.2.2.2.2.2.2.2.2.2.1 q.2.2.2.2.2.2.2.2.2.2.2.2.2.2.2.2.2.2.2.1 q.2.2.2.2.2.2.2.2.2.2.2.2.2.2.2.2.2.2.2.2.1 q.2.2.2.2.2.2.2.2.2.2.2.2.2.2.2.2.2.2.2.2.2.1 q.2.2.2.2.2.2.2.2.2.2.2.2.2.2.2.2.2.2.2.2.2.2.1
@[irreducible] noncomputable def z3 : Obj := c0.1
@[irreducible] noncomputable def z5 : Heap := c0.2.1
@[irreducible] noncomputable def p' : Nat := c0.2.2.1
@[irreducible] noncomputable def t : Addr := c0.2.2.2.1
@[irreducible] noncomputable def D : Addr := c0.2.2.2.2.1
@[irreducible] noncomputable def u : Tok := c0.2.2.2.2.2.1
@[irreducible] noncomputable def z9 : Addr := c0.2.2.2.2.2.2.1
@[irreducible] noncomputable def z10 : Heap := c0.2.2.2.2.2.2.2.1
@[irreducible] noncomputable def its' : List Item := c0.2.2.2.2.2.2.2.2.1
@[irreducible] noncomputable def ys' : List Value := c0.2.2.2.2.2.2.2.2.2.1
@[irreducible] noncomputable def tn : Tok := c0.2.2.2.2.2.2.2.2.2.2.1
@[irreducible] noncomputable def ys2 : List Value := c0.2.2.2.2.2.2.2.2.2.2.2.1
@[irreducible] noncomputable def D2 : Addr := c0.2.2.2.2.2.2.2.2.2.2.2.2.1
@[irreducible] noncomputable def z13 : Nat := c0.2.2.2.2.2.2.2.2.2.2.2.2.2.1
@[irreducible] noncomputable def rows : List (List UInt8) := c0.2.2.2.2.2.2.2.2.2.2.2.2.2.2.1
@[irreducible] noncomputable def z14 : Addr := c0.2.2.2.2.2.2.2.2.2.2.2.2.2.2.2.1
@[irreducible] noncomputable def h : Heap := c0.2.2.2.2.2.2.2.2.2.2.2.2.2.2.2.2.1
@[irreducible] noncomputable def tk : Nat := c0.2.2.2.2.2.2.2.2.2.2.2.2.2.2.2.2.2.1
@[irreducible] noncomputable def ys3 : Array Value := c0.2.2.2.2.2.2.2.2.2.2.2.2.2.2.2.2.2.2.1
@[irreducible] noncomputable def t3 : Tok := c0.2.2.2.2.2.2.2.2.2.2.2.2.2.2.2.2.2.2.2.1
@[irreducible] noncomputable def oc : Option Value := c0.2.2.2.2.2.2.2.2.2.2.2.2.2.2.2.2.2.2.2.2.1
@[irreducible] noncomputable def o3 : Obj := c0.2.2.2.2.2.2.2.2.2.2.2.2.2.2.2.2.2.2.2.2.2.1
@[irreducible] noncomputable def n3 : Nat := c0.2.2.2.2.2.2.2.2.2.2.2.2.2.2.2.2.2.2.2.2.2.2.1
theorem main : skmain_sb1.1 z3 z5 p' t D u z9 z10 its' ys' tn ys2 D2 z13 rows z14 h tk ys3 t3 oc o3 n3 := by
  intro hb hn B F X T hk hd hu hp hret hexc z0 z1 z2 z4 hst hout lx hrel' hrp hsep hne hrel z11 hlen hlen2 hlen3 hr2 o1 hread hrows hr3 ho7 z16 F3 N3 hc3 hd3 hr4
  have hle := firstCut_le (B := 100000) (itemRows_len hrows fun l hl => rp_item hrp (List.mem_append_left _ hl) hb)
  have hws : (firstCut rows).2.length ≤ 100000 := hle.1
  k_extra "k_steps"
  k_dflt (refine comp_assignI (exc := False) (by k_asm) rfl rfl rfl (fun x => x.elim) (by with_unfolding_all rfl) (by rfl) (by decide) (by rfl) (by decide) (by rfl) (by rfl) (by rfl) ?_)
  k_extra "k_steps"
  refine Spec.use (text_of_spec (firstCut rows).2 _ (by omega)) (by k_asm) (by k_asm) (by k_asm) (by k_asm) (by k_asm) rfl (by k_extra "ktr_room") (by k_extra "ktr_room") trivial ?_ (fun x => x.elim)
  rintro r tl h' tk' F' N' hsep hst hst'
  obtain ⟨rfl, u7, rfl⟩ := hst'
  dsimp only [List.nil_append] at N'
  k_extra "k_steps"
  have hxl : (S (tx (firstCut rows).2)).length ≤ 100000 := by
    show (tx (firstCut rows).2).toArray.size ≤ _
    rw [List.size_toArray, tx_length]; exact hws
  refine split_L (s := ⟨_, _, _, _, _⟩) F' N' rfl (by omega) (by
    rw [length_partsBetween]
    have := StrLaws.occ_length_le_len (S (tx (firstCut rows).2)) (Str.ofString " ") 0 (S (tx (firstCut rows).2)).length ((S (tx (firstCut rows).2)).length + 1)
    omega) fun D3 l c3 h' k' hl F' N' hlt hst => ?_
  have hl' : Rel2 (fun (wd : List UInt8) v => TxtV (tx wd) v) (splitL 32 (firstCut rows).2) (strValues l) := by
    refine strs_rel _ _ ?_
    rw [hl, ← splitL_tx, ← split_pure]; rfl
  k_extra "k_steps"
  refine ⟨List UInt8, splitL 32 (firstCut rows).2, fun wd v => TxtV (tx wd) v, [(D3, listOf (strValues l).toArray c3)], _, fun i ys nw => nw = [(D3, listOf (strValues l).toArray c3), (D2, o3), (_, _)] ∧ Rel2 (fun wd v => TxtV (tx wd) v) (((splitL 32 (firstCut rows).2).take i).filter (fun x => !x.isEmpty)) ys,
    IterOf.rel hl' (iter_list (ol := listOf (strValues l).toArray c3) rfl (N' (D3, _) (by k_mem)).1 rfl rfl), by k_asm, N', by (rw [sizeLine_eq]; have := splitL_le 32 (firstCut rows).2; omega), ⟨rfl, trivial⟩, ?_, ?_, fun x => x.elim⟩
  · intro i a v ys news₁ h tk C oC m₂ ha hz0 hz1 hS hC hx hyl I oI D Q' Qs E' F' N' off ne hret hskip _
    obtain ⟨u, rfl⟩ := hz0
    obtain ⟨rfl, hr⟩ := hz1
    k_extra "k_steps"
    · have hq : a.isEmpty = false := by
        cases a with
        | nil => exfalso; simp_all [tx, empty_S]
        | cons x r => rfl
      exact hret _ _ _ _ F' N' off hS ⟨rfl, by rw [filt_take ha, hq]; exact Rel2.snoc ⟨_, rfl⟩ hr⟩
    · have hq : a.isEmpty = true := by
        have h0 : (S (tx a) != Str.ofString "") = false := by assumption
        rw [bne_eq_false_iff_eq, empty_S] at h0
        have h1 : tx a = [] := by simpa using congrArg (fun x : Str => x.cps.toList) h0
        rw [tx, List.map_eq_nil_iff] at h1
        rw [h1]; rfl
      exact hskip _ _ _ F' N' off hS ⟨rfl, by rw [filt_take ha, hq]; simpa using hr⟩
  · rintro ys nw ⟨rfl, hr⟩ hyl
    rw [List.take_of_length_le (Nat.le_refl _)] at hr
    intro D4 h tk F' N' o1'
    k_extra "k_steps"
    clear hl' hl
    have hlen5 : ys.length ≤ 100001 := by have := hr.length; have := splitL_le 32 (firstCut rows).2; have := List.length_filter_le (fun x => !x.isEmpty) (splitL 32 (firstCut rows).2); omega
    have hlen6 : (firstCut rows).1.length ≤ 100000 := by
      have h1 := hr2.length
      have h3 := hr3.length
      have h2 : (firstCut rows).1.length = rows.length := by cases rows <;> rfl
      omega
    k_dflt (refine comp_expr (exc := rds n (firstCut rows).1 = none) (by k_asm) rfl rfl (fun _ => hout) (by rfl) (by decide) (by rfl) (by decide) (by rfl) ?_)
    k_extra "k_steps"
    refine' ⟨List UInt8, (firstCut rows).1, BytV, [(D2, o3)], ?nw0, fun i ys nw => ∃ objs cmds, nw = ?nw0 ++ objs ∧ rds n ((firstCut rows).1.take i) = some cmds ∧ Rel2 (CmdIn w objs) cmds ys, IterOf.rel hr4 (iter_list (ol := o3) rfl (N' (D2, o3) (by k_mem)).1 hc3 hd3), ?fF, ?nN, ?sz, ?ini, ?turn, ?done, ?hE⟩
    case fF => exact F'
    case nN => exact N'
    case sz => rw [sizeLine_eq]; omega
    case ini => exact ⟨[], [], (List.append_nil _).symm, rfl, trivial⟩
    case turn =>
      intro i a v ys9 news₁ h tk C oC m₂ ha hz0 hz1 hS hC hx hyl I oI D Q' E' F' N' off ne hret' hexc'
      obtain ⟨u, rfl⟩ := hz0
      obtain ⟨objs, cmds, rfl, hrd, hr9⟩ := hz1
      dsimp only [List.cons_append, List.nil_append] at N' off hret'
      have hal : a.length ≤ 100000 := hle.2 a (List.mem_of_getElem? ha)
      k_extra "k_steps"
      refine Spec.use (cmd_read_spec a _ _ n hal hn) (by k_asm) (by k_asm) (by k_asm) (by k_asm) (by k_asm) rfl (by k_extra "ktr_room") (by k_extra "ktr_room") trivial ?_ ?_
      · rintro r tl h' tk' F' N' hsep hst ⟨co, cn, cm, c, d, k1, k2, k3, t1, t2, t3, hrd1, rfl, rfl⟩
        refine hret' _ _ _ _ F' (req_turn N') (off_turn off hsep) (fun p hp => ?_) ⟨objs ++ [(c, instObj 181 d), (d, cmdD w k1 k2 k3 (.bytes co.toArray t1) (.bytes cn.toArray t2) (.str (S (tx cm)) t3))], cmds ++ [(co, cn, cm)], rfl, ?_, ?_⟩
        · rw [List.mem_singleton.mp hp]
          exact (N' (D2, o3) (by k_mem)).1
        · rw [List.take_add_one, ha]
          exact rds_snoc hrd1 hrd
        · exact (hr9.mono fun _ _ => CmdIn.mono fun p hp => List.mem_append_left _ hp).snoc ⟨c, d, k1, k2, k3, t1, t2, t3, rfl, by simp, by simp⟩
      · intro hx e h' tk' R'
        exact hexc' (rds_none hx (List.mem_of_getElem? ha)) _ _ _ _ (by k_asm) (N' (C, oC) (by k_mem)).1 R'
    case done =>
      rintro ys9 nw ⟨objs, cmds, rfl, hrd, hr9⟩ hyl9
      rw [List.take_length] at hrd
      intro D6 h tk F' N' o1'
      dsimp only [List.cons_append, List.nil_append] at N'
      k_extra "k_steps"
      rename_i Fl Nl _
      refine Spec.use (make_req_spec D6 D4 ys9.length ys.length ys9.toArray ys.toArray _ (by have := hr9.length; simp only [List.size_toArray]; omega) (by simp only [List.size_toArray]; omega)) (by k_asm) (by k_asm) (by k_asm) (by k_asm) (by k_asm) rfl (by k_extra "ktr_room") (by k_extra "ktr_room") (stand_two (Nl (D6, lst ys9) (by k_mem)).1 (Nl (D4, lst ys) (by k_mem)).1) ?_ (fun x => x.elim)
      rintro r tl h' tk' F' N' hsep hst ⟨c, d, k1, k2, k3, m1, m2, n1, n2, rfl, rfl⟩
      dsimp only [List.cons_append, List.nil_append] at N'
      have hnew := req_done N'
      k_extra "k_steps"
      have hn9 : rq o n = some (cmds, splitW (firstCut rows).2, cutL o (some (p' : Int)) none) := by
        rw [hread, hrd]
        show some _ = _
        rw [cutL_from]
      (try dsimp only)
      with_reducible refine hret _ _ _ _ (fr_stays (by assumption)) hnew ?_
      exact ⟨_, hn9, c, d, k1, k2, k3, _, m1, m2, n1, n2, ys9, ys, objs, rfl, hr, hr9, rfl⟩
    case hE =>
      intro hx ea hE mE h' tk' FE RE
      k_extra "k_steps"
      have hq : rq o n = none := by rw [hread, hx]
      with_reducible refine hexc hq _ _ _ (by assumption)
theorem all : ∀ a0 a1 a2 a3 a4 a5 a6 a7 a8 a9 a10 a11 a12 a13 a14 a15 a16 a17 a18 a19 a20 a21 a22, skmain_sb1.1 a0 a1 a2 a3 a4 a5 a6 a7 a8 a9 a10 a11 a12 a13 a14 a15 a16 a17 a18 a19 a20 a21 a22 := by
  have q1 : (fun q : (Obj) × (Heap) × (Nat) × (Addr) × (Addr) × (Tok) × (Addr) × (Heap) × (List Item) × (List Value) × (Tok) × (List Value) × (Addr) × (Nat) × (List (List UInt8)) × (Addr) × (Heap) × (Nat) × (Array Value) × (Tok) × (Option Value) × (Obj) × (Nat) × Unit => skmain_sb1.1 q.1 q.2.1 q.2.2.1 q.2.2.2.1 q.2.2.2.2.1 q.2.2.2.2.2.1 q.2.2.2.2.2.2.1 q.2.2.2.2.2.2.2.1 q.2.2.2.2.2.2.2.2.1 q.2.2.2.2.2.2.2.2.2.1 q.2.2.2.2.2.2.2.2.2.2.1 q.2.2.2.2.2.2.2.2.2.2.2.1 q.2.2.2.2.2.2.2.2.2.2.2.2.1 q.2.2.2.2.2.2.2.2.2.2.2.2.2.1 q.2.2.2.2.2.2.2.2.2.2.2.2.2.2.1 q.2.2.2.2.2.2.2.2.2.2.2.2.2.2.2.1 q.2.2.2.2.2.2.2.2.2.2.2.2.2.2.2.2.1 q.2.2.2.2.2.2.2.2.2.2.2.2.2.2.2.2.2.1 q.2.2.2.2.2.2.2.2.2.2.2.2.2.2.2.2.2.2.1 q.2.2.2.2.2.2.2.2.2.2.2.2.2.2.2.2.2.2.2.1 q.2.2.2.2.2.2.2.2.2.2.2.2.2.2.2.2.2.2.2.2.1 q.2.2.2.2.2.2.2.2.2.2.2.2.2.2.2.2.2.2.2.2.2.1 q.2.2.2.2.2.2.2.2.2.2.2.2.2.2.2.2.2.2.2.2.2.2.1) (pick ⟨⟨default, default, default, default, default, default, default, default, default, default, default, default, default, default, default, default, default, default, default, default, default, default, default, ()⟩⟩ fun q => skmain_sb1.1 q.1 q.2.1 q.2.2.1 q.2.2.2.1 q.2.2.2.2.1 q.2.2.2.2.2.1 q.2.2.2.2.2.2.1 q.2.2.2.2.2.2.2.1 q.2.2.2.2.2.2.2.2.1 q.2.2.2.2.2.2.2.2.2.1 q.2.2.2.2.2.2.2.2.2.2.1 q.2.2.2.2.2.2.2.2.2.2.2.1 q.2.2.2.2.2.2.2.2.2.2.2.2.1 q.2.2.2.2.2.2.2.2.2.2.2.2.2.1 q.2.2.2.2.2.2.2.2.2.2.2.2.2.2.1 q.2.2.2.2.2.2.2.2.2.2.2.2.2.2.2.1 q.2.2.2.2.2.2.2.2.2.2.2.2.2.2.2.2.1 q.2.2.2.2.2.2.2.2.2.2.2.2.2.2.2.2.2.1 q.2.2.2.2.2.2.2.2.2.2.2.2.2.2.2.2.2.2.1 q.2.2.2.2.2.2.2.2.2.2.2.2.2.2.2.2.2.2.2.1 q.2.2.2.2.2.2.2.2.2.2.2.2.2.2.2.2.2.2.2.2.1 q.2.2.2.2.2.2.2.2.2.2.2.2.2.2.2.2.2.2.2.2.2.1 q.2.2.2.2.2.2.2.2.2.2.2.2.2.2.2.2.2.2.2.2.2.2.1) := by with_unfolding_all exact main
  exact fun a0 a1 a2 a3 a4 a5 a6 a7 a8 a9 a10 a11 a12 a13 a14 a15 a16 a17 a18 a19 a20 a21 a22 => pick_spec (P := fun q : (Obj) × (Heap) × (Nat) × (Addr) × (Addr) × (Tok) × (Addr) × (Heap) × (List Item) × (List Value) × (Tok) × (List Value) × (Addr) × (Nat) × (List (List UInt8)) × (Addr) × (Heap) × (Nat) × (Array Value) × (Tok) × (Option Value) × (Obj) × (Nat) × Unit => skmain_sb1.1 q.1 q.2.1 q.2.2.1 q.2.2.2.1 q.2.2.2.2.1 q.2.2.2.2.2.1 q.2.2.2.2.2.2.1 q.2.2.2.2.2.2.2.1 q.2.2.2.2.2.2.2.2.1 q.2.2.2.2.2.2.2.2.2.1 q.2.2.2.2.2.2.2.2.2.2.1 q.2.2.2.2.2.2.2.2.2.2.2.1 q.2.2.2.2.2.2.2.2.2.2.2.2.1 q.2.2.2.2.2.2.2.2.2.2.2.2.2.1 q.2.2.2.2.2.2.2.2.2.2.2.2.2.2.1 q.2.2.2.2.2.2.2.2.2.2.2.2.2.2.2.1 q.2.2.2.2.2.2.2.2.2.2.2.2.2.2.2.2.1 q.2.2.2.2.2.2.2.2.2.2.2.2.2.2.2.2.2.1 q.2.2.2.2.2.2.2.2.2.2.2.2.2.2.2.2.2.2.1 q.2.2.2.2.2.2.2.2.2.2.2.2.2.2.2.2.2.2.2.1 q.2.2.2.2.2.2.2.2.2.2.2.2.2.2.2.2.2.2.2.2.1 q.2.2.2.2.2.2.2.2.2.2.2.2.2.2.2.2.2.2.2.2.2.1 q.2.2.2.2.2.2.2.2.2.2.2.2.2.2.2.2.2.2.2.2.2.2.1) (ne := ⟨⟨default, default, default, default, default, default, default, default, default, default, default, default, default, default, default, default, default, default, default, default, default, default, default, ()⟩⟩) q1 ⟨a0, a1, a2, a3, a4, a5, a6, a7, a8, a9, a10, a11, a12, a13, a14, a15, a16, a17, a18, a19, a20, a21, a22, ()⟩
end skmain_f
theorem skmain : skP w mean mg mb dp un gd cn cs a ccd cl outer A₀ base h₀ L m s Q E o tb unT n := skmain_sb1.2 skmain_f.all
theorem skall : skP skc.1.w skc.1.mean skc.1.mg skc.1.mb skc.1.dp skc.1.un skc.1.gd skc.1.cn skc.1.cs skc.1.a skc.1.ccd skc.1.cl skc.1.outer skc.1.A₀ skc.1.base skc.1.h₀ skc.1.L skc.1.m skc.1.s skc.1.Q skc.1.E skc.2.1 skc.2.2.1 skc.2.2.2.1 skc.2.2.2.2.1 := by
  with_unfolding_all exact skmain
end req_read_specK
theorem req_read_spec {w : World} {mean : ExcName → Option Value} {mg mb : Str → Option Value} (o : List UInt8) (tb unT : Tok) (n : Nat) (hb : o.length ≤ 100000) (hn : n ≤ 1000) : Spec w mean mg mb 7 213 [.bytes o.toArray tb, .int (n : Int) unT] (fun _ => True)
    (fun r tl => ∃ q, rq o n = some q ∧ ReqV w q r tl) (rq o n = none) := by
  intro dp un gd cn cs a ccd cl outer A₀ base h₀ L m s Q E
  exact pick_spec (P := fun p : Cx × (List UInt8) × (Tok) × (Tok) × (Nat) × Unit => req_read_specK.skP p.1.w p.1.mean p.1.mg p.1.mb p.1.dp p.1.un p.1.gd p.1.cn p.1.cs p.1.a p.1.ccd p.1.cl p.1.outer p.1.A₀ p.1.base p.1.h₀ p.1.L p.1.m p.1.s p.1.Q p.1.E p.2.1 p.2.2.1 p.2.2.2.1 p.2.2.2.2.1) req_read_specK.skall (⟨w, mean, mg, mb, dp, un, gd, cn, cs, a, ccd, cl, outer, A₀, base, h₀, L, m, s, Q, E, default, default⟩, o, tb, unT, n, ()) hb hn
end
section
variable {w : World} {mean : ExcName → Option Value} {mg mb : Str → Option Value}
end
end
section
set_option maxHeartbeats 4000000
section
variable {w : World} {mean : ExcName → Option Value} {mg mb : Str → Option Value}
theorem law_hex_spec (b : List UInt8) (tb : Tok) (hb : b.length ≤ 100000) : Spec w mean mg mb 3 235 [.bytes b.toArray tb] (fun _ => True) (fun r tl => tl = [] ∧ BytV (hexL b) r) False := by
  intro dp un gd cn cs a ccd cl outer A₀ base h₀ L m s Q E B F X T hk hd hu hp hret hexc
  refine wpAny_call ?_
  k_dflt k_extra "cell_enter"
  k_extra "k_steps"
  k_dflt (refine comp2_expr (xs := b) (V := fun c v => ∃ u, v = .int (c.toNat : Int) u) (src := []) (news := []) (zs := [(0 : Int), 1]) (V2 := fun k v => ∃ u, v = .int k u) (fun c k y => OctV (if k = 0 then hx (c.toNat / 16) else hx (c.toNat % 16)) y) (by k_asm) rfl rfl (by rfl) (by decide) (by decide) (by rfl) (by rfl) (by decide) ?_)
  first | walk1 | (dsimp only; walk1)
  refine ⟨(by exact (iter_bytes (b := b.toArray) rfl)), (by k_asm), News.nil, (fun p hp => (by cases hp)), (by rw [sizeLine_eq]; simp only [List.length_cons, List.length_nil]; omega), ?_, ?_, ?_⟩
  · intro C oC h tk nw Q' F' N' hret
    k_extra "k_steps"
    rename_i F' N' hl
    exact hret _ _ _ _ _ (fun es n e => by cases e) F' N' (fun q hq => Nat.ne_of_gt ((List.mem_cons.mp hq).elim (fun e => e ▸ hl.1) (fun e => PySem.W.ktn_ltOf hl.2 q e))) (IterOf.rel (ys := [_, _]) (G := fun (k : Int) v => ∃ u, v = .int k u) ⟨⟨_, rfl⟩, ⟨_, rfl⟩, trivial⟩ (iter_tuple rfl (N' _ List.mem_cons_self).1 rfl rfl))
  · intro c v k u C oC m₂ nw hc hz0 hk hz1 hC hxx hyy _ h tk Q' F' N' hret
    obtain ⟨u1, rfl⟩ := hz0
    obtain ⟨u2, rfl⟩ := hz1
    have hlt := c.toNat_lt
    rcases List.mem_cons.mp hk with rfl | hk
    · k_extra "k_steps"
      refine byte_item (n := c.toNat / 16) (c := hx (c.toNat / 16)) ?_ (sig_at (by omega)) (by decide) fun t' k' => ?_
      · rw [Int.fmod_eq_emod_of_nonneg _ (by decide), Int.fdiv_eq_ediv_of_nonneg _ (by decide)]
        omega
      k_extra "k_steps"
      exact hret _ _ _ (by k_asm) (by k_asm) ⟨_, rfl⟩
    rcases List.mem_cons.mp hk with rfl | hk
    · k_extra "k_steps"
      refine byte_item (n := c.toNat % 16) (c := hx (c.toNat % 16)) ?_ (sig_at (by omega)) (by decide) fun t' k' => ?_
      · rw [Int.fmod_eq_emod_of_nonneg _ (by decide), Int.fdiv_eq_ediv_of_nonneg _ (by decide)]
        omega
      k_extra "k_steps"
      exact hret _ _ _ (by k_asm) (by k_asm) ⟨_, rfl⟩
    cases hk
  · intro ys hr D h tk F' N' o1
    have hr' : Rel2 OctV (hexL b) ys := by
      have := Rel2.map (G := OctV) (fun p : UInt8 × Int => if p.2 = 0 then hx (p.1.toNat / 16) else hx (p.1.toNat % 16)) hr
      have e : (b.flatMap fun a => [(0 : Int), 1].map fun b => (a, b)).map (fun p : UInt8 × Int => if p.2 = 0 then hx (p.1.toNat / 16) else hx (p.1.toNat % 16)) = hexL b := by
        rw [List.map_flatMap, hexL, List.flatMap_def]
        simp
      rw [e] at this
      exact this
    have hhl := hexL_length b
    k_extra "k_steps"
    refine bytes_of_list (l := hexL b) (by k_asm) (by k_asm) rfl (News.isList (by k_asm) (by k_mem)) hr' (by omega) fun h' t' k' F' N' => ?_
    k_extra "k_steps"
    (try dsimp only); with_reducible exact hret _ [] _ _ (fr_stays (by assumption)) (List.forall_mem_nil _) ⟨rfl, _, rfl⟩
end
end
section
set_option maxHeartbeats 4000000
section
variable {w : World} {mean : ExcName → Option Value} {mg mb : Str → Option Value}
noncomputable abbrev tupO (vs : Array Value) (n : Nat) : Obj := { cls := .type "tuple", data := .seq vs n }
noncomputable abbrev cmdT (t1 t2 t3 : Tok) (n : Nat) (c : Cmd) : Obj := tupO #[.bytes c.1.toArray t1, .bytes c.2.1.toArray t2, .str (S (tx c.2.2)) t3] n
theorem law_row_spec (x : Addr) (t1 t2 t3 : Tok) (n : Nat) (c : Cmd) (h1 : c.1.length ≤ 1000) (h2 : c.2.1.length ≤ 1000) (h3 : c.2.2.length ≤ 1000) : Spec w mean mg mb 4 250 [.ref x] (fun h => h.get? x = some (cmdT t1 t2 t3 n c)) (fun r tl => tl = [] ∧ BytV (crow c) r) False := by
  intro dp un gd cn cs a ccd cl outer A₀ base h₀ L m s Q E B F X T hk hd hu hp hret hexc
  refine wpAny_call ?_
  k_dflt k_extra "cell_enter"
  k_extra "k_steps"
  refine item_of (T := "tuple") (k := 0) (v := .bytes c.1.toArray t1) (o := cmdT t1 t2 t3 n c) (by exact fr_stays (by k_asm) _ _ hp) (by exact .inr rfl) (by rfl) (by rfl) (by rfl) (by rfl) (by show 3 ≤ _; omega) ?_
  k_extra "k_steps"
  refine Spec.use (law_hex_spec c.1 _ (by omega)) (by k_asm) (by k_asm) (by k_asm) (by k_asm) (by k_asm) rfl (by k_extra "ktr_room") (by k_extra "ktr_room") trivial ?_ (fun x => x.elim)
  rintro r tl h' tk' F' N' hsep hst hst'
  obtain ⟨rfl, u1, rfl⟩ := hst'
  have hl1 := hexL_length c.1
  have hl2 := hexL_length c.2.1
  k_extra "k_steps"
  refine item_of (T := "tuple") (k := 1) (v := .bytes c.2.1.toArray t2) (o := cmdT t1 t2 t3 n c) (by exact fr_stays (by k_asm) _ _ hp) (by exact .inr rfl) (by rfl) (by rfl) (by rfl) (by rfl) (by show 3 ≤ _; omega) ?_
  k_extra "k_steps"
  refine Spec.use (law_hex_spec c.2.1 _ (by omega)) (by k_asm) (by k_asm) (by k_asm) (by k_asm) (by k_asm) rfl (by k_extra "ktr_room") (by k_extra "ktr_room") trivial ?_ (fun x => x.elim)
  rintro r tl h' tk' F' N' hsep hst hst'
  obtain ⟨rfl, u2, rfl⟩ := hst'
  k_extra "k_steps"
  k_extra "ktr_step"
  k_extra "k_steps"
  refine item_of (T := "tuple") (k := 2) (v := .str (S (tx c.2.2)) t3) (o := cmdT t1 t2 t3 n c) (by exact fr_stays (by k_asm) _ _ hp) (by exact .inr rfl) (by rfl) (by rfl) (by rfl) (by rfl) (by show 3 ≤ _; omega) ?_
  k_extra "k_steps"
  refine CompGo.rel (xs := tx c.2.2) (fun c y => ∃ t, y = .int (c : Int) t) (iter_str rfl) (by k_asm) (by k_asm) (List.forall_mem_nil _) (by rw [sizeLine_eq]; simp only [tx, List.length_map]; omega) ?_ ?_ (fun x => x.elim)
  · intro c v C oC m₂ hc hz0 hn hx I oI D ys h tk Q' E' F' N' off ne hret' _
    obtain ⟨u, rfl⟩ := hz0
    k_extra "k_steps"
    exact hret' _ _ _ F' N' ⟨_, rfl⟩
  · intro ys hr D h tk F' N' o1
    have hr' : Rel2 OctV c.2.2 ys := Rel2.unmap (fun c : UInt8 => c.toNat) hr
    k_extra "k_steps"
    refine bytes_of_list (by k_asm) (by k_asm) rfl (News.isList (by k_asm) (by k_mem)) hr' (by omega) fun h' t' k' F' N' => ?_
    k_extra "k_steps"
    (try dsimp only); with_reducible exact hret _ [] _ _ (fr_stays (by assumption)) (List.forall_mem_nil _) ⟨rfl, _, rfl⟩
end
end
section
set_option maxHeartbeats 4000000
section
variable {w : World} {mean : ExcName → Option Value} {mg mb : Str → Option Value}
/-- an option of a command as a value: none, or a tuple -/
noncomputable def CutV (o : Option Cmd) (r : Value) (tl : List (Addr × Obj)) : Prop := match o with
  | none => r = .none
  | some c => ∃ t t1 t2 t3 n, r = .ref t ∧ tl = [(t, cmdT t1 t2 t3 n c)]
theorem news134 {h₀ h : Heap} {L : Addr} {a1 a2 a3 a4 : Addr × Obj} (N : News h₀ L h [a1, a2, a3, a4]) : News h₀ L h [a1, a2, a4] := news_weak N (by simp)
theorem news36 {h₀ h : Heap} {L : Addr} {a1 a2 a3 a4 a5 a6 : Addr × Obj} (N : News h₀ L h [a1, a2, a3, a4, a5, a6]) : News h₀ L h [a3, a4, a5, a6] := news_weak N (by simp)
theorem off1_mem {D : Addr} : ∀ {l : List (Addr × Obj)}, Off1 D l → ∀ p ∈ l, p.1 ≠ D
  | [], _, _, h => nomatch h
  | _ :: _, h, p, hp => by
    rcases List.mem_cons.mp hp with rfl | hp
    · exact h.1
    · exact off1_mem h.2 p hp
noncomputable abbrev sigL : List UInt8 := [48, 49, 50, 51, 52, 53, 54, 55, 56, 57, 97, 98, 99, 100, 101, 102]
theorem sig_contains (c : UInt8) : sigL.contains c = plainC c.toNat := by
  have key : ∀ n < 256, sigL.contains n.toUInt8 = plainC n := by decide +kernel
  have := key c.toNat c.toNat_lt
  rwa [show c.toNat.toUInt8 = c from by simp] at this
theorem sig_find (c : UInt8) (h : plainC c.toNat = true) : sigL.findIdx? (· == c) = some (hv c.toNat) := by
  have key : ∀ n < 256, plainC n = true → sigL.findIdx? (· == n.toUInt8) = some (hv n) := by decide +kernel
  have := key c.toNat c.toNat_lt h
  rwa [show c.toNat.toUInt8 = c from by simp] at this
end
section
namespace law_cut_specK
noncomputable def skP (w : World) (mean : ExcName → Option Value) (mg : Str → Option Value) (mb : Str → Option Value) (dp : Nat) (un : Nat) (gd : Option (List Code)) (cn : Str) (cs : Scope) (a : Addr) (ccd : Value) (cl : List (Str × Addr)) (outer : List Env) (A₀ : Around) (base : Heap) (h₀ : Heap) (L : Addr) (m : Str → Option Value) (s : Shared) (Q : Value → Shared → Prop) (E : Value → Shared → Prop) (row : List UInt8) (tb : Tok) (unT : Tok) (n : Nat) : Prop :=
  (row.length ≤ 100000) → (n ≤ 1000) → SpecAt w mean mg mb dp un gd cn cs a ccd cl outer A₀ base h₀ L m s Q E 4 255 [.bytes row.toArray tb, .int (n : Int) unT] (fun _ => True) (fun r tl => CutV (rd row n) r tl ∧ (rd row n = none → tl = [])) False
noncomputable def skc : Cx × (List UInt8) × (Tok) × (Tok) × (Nat) × Unit := pick ⟨(cx0, default, default, default, default, ())⟩ (fun p : Cx × (List UInt8) × (Tok) × (Tok) × (Nat) × Unit => skP p.1.w p.1.mean p.1.mg p.1.mb p.1.dp p.1.un p.1.gd p.1.cn p.1.cs p.1.a p.1.ccd p.1.cl p.1.outer p.1.A₀ p.1.base p.1.h₀ p.1.L p.1.m p.1.s p.1.Q p.1.E p.2.1 p.2.2.1 p.2.2.2.1 p.2.2.2.2.1)
@[irreducible] noncomputable def w : World := skc.1.w
@[irreducible] noncomputable def mean : ExcName → Option Value := skc.1.mean
@[irreducible] noncomputable def mg : Str → Option Value := skc.1.mg
@[irreducible] noncomputable def mb : Str → Option Value := skc.1.mb
@[irreducible] noncomputable def dp : Nat := skc.1.dp
@[irreducible] noncomputable def un : Nat := skc.1.un
@[irreducible] noncomputable def gd : Option (List Code) := skc.1.gd
@[irreducible] noncomputable def cn : Str := skc.1.cn
@[irreducible] noncomputable def cs : Scope := skc.1.cs
@[irreducible] noncomputable def a : Addr := skc.1.a
@[irreducible] noncomputable def ccd : Value := skc.1.ccd
@[irreducible] noncomputable def cl : List (Str × Addr) := skc.1.cl
@[irreducible] noncomputable def outer : List Env := skc.1.outer
@[irreducible] noncomputable def A₀ : Around := skc.1.A₀
@[irreducible] noncomputable def base : Heap := skc.1.base
@[irreducible] noncomputable def h₀ : Heap := skc.1.h₀
@[irreducible] noncomputable def L : Addr := skc.1.L
@[irreducible] noncomputable def m : Str → Option Value := skc.1.m
@[irreducible] noncomputable def s : Shared := skc.1.s
@[irreducible] noncomputable def Q : Value → Shared → Prop := skc.1.Q
@[irreducible] noncomputable def E : Value → Shared → Prop := skc.1.E
@[irreducible] noncomputable def row : List UInt8 := skc.2.1
@[irreducible] noncomputable def tb : Tok := skc.2.2.1
@[irreducible] noncomputable def unT : Tok := skc.2.2.2.1
@[irreducible] noncomputable def n : Nat := skc.2.2.2.2.1
noncomputable def en : { P : Addr → Heap → Tok → Prop // (∀ L' h' tk', P L' h' tk') → skP w mean mg mb dp un gd cn cs a ccd cl outer A₀ base h₀ L m s Q E row tb unT n } :=
  ⟨_, by
  intro hP hb hn B F X T hk hd hu hp hret hexc
  refine wpAny_call ?_
  k_dflt k_extra "enC"⟩
noncomputable def enc : Addr × Heap × Tok := pick ⟨default⟩ fun p => en.1 p.1 p.2.1 p.2.2
@[irreducible] noncomputable def L' : Addr := enc.1
@[irreducible] noncomputable def h' : Heap := enc.2.1
@[irreducible] noncomputable def tk' : Tok := enc.2.2
theorem enall (q : en.1 L' h' tk') : ∀ a b c, en.1 a b c := by
  have q1 : (fun p : Addr × Heap × Tok => en.1 p.1 p.2.1 p.2.2) (pick ⟨default⟩ fun p => en.1 p.1 p.2.1 p.2.2) := by with_unfolding_all exact q
  exact fun a b c => pick_spec (P := fun p : Addr × Heap × Tok => en.1 p.1 p.2.1 p.2.2) (ne := ⟨default⟩) q1 (a, b, c)
noncomputable def skmain_sb1 : { pQ : (Obj) → (Tok) → (Tok) → (Addr) → (Tok) → (Nat) → (Addr) → (Addr) → (Heap) → (Nat) → (List UInt8) → (List Value) → (Obj) → (Heap) → (Nat) → (Addr) → (Obj) → (Flow → Shared → Prop) → (Value → Shared → Prop) → (Tok) → (Option Value) → Prop // (∀ (z3 : Obj) (z6 : Tok) (z14 : Tok) (z21 : Addr) (z26 : Tok) (z27 : Nat) (z33 : Addr) (z37 : Addr) (z38 : Heap) (i : Nat) (b : List UInt8) (ys : List Value) (oc : Obj) (h : Heap) (tk : Nat) (J : Addr) (oJ : Obj) (Q' : Flow → Shared → Prop) (E' : Value → Shared → Prop) (u : Tok) (v₀ : Option Value), pQ z3 z6 z14 z21 z26 z27 z33 z37 z38 i b ys oc h tk J oJ Q' E' u v₀) → (skP w mean mg mb dp un gd cn cs a ccd cl outer A₀ base h₀ L m s Q E row tb unT n) } := ⟨_, by
  intro hP_a
  intro hb hn B F X T hk hd hu hp hret hexc
  refine en.2 (enall ?_) hb hn B F X T hk hd hu hp hret hexc
  intro _ _ _ Y' _ _ _; k_cells Y'
  (try dsimp only)
  have e1 : cutL row (some (2 * (n : Int))) (some (2 * (n : Int) + 1)) = (row.drop (2 * n)).take 1 := by rw [cutL_at (a := 2 * n) (b := 2 * n + 1) (by omega) (by omega)]; congr 1; omega
  have e2 : cutL row (some (4 * (n : Int) + 1)) (some (4 * (n : Int) + 2)) = (row.drop (4 * n + 1)).take 1 := by rw [cutL_at (a := 4 * n + 1) (b := 4 * n + 2) (by omega) (by omega)]; congr 1; omega
  have e3 : cutL row (some (4 * (n : Int) + 2)) none = row.drop (4 * n + 2) := cutL_fr (by omega)
  have e4 : cutL row none (some (2 * (n : Int))) = row.take (2 * n) := cutL_up (by omega)
  have e5 : cutL row (some (2 * (n : Int) + 1)) (some (4 * (n : Int) + 1)) = (row.drop (2 * n + 1)).take (2 * n) := by rw [cutL_at (a := 2 * n + 1) (b := 4 * n + 1) (by omega) (by omega)]; congr 1; omega
  k_extra "k_steps"
  rename_i F1 N1
  rw [e1, e2, e4, e5] at N1
  rw [e3] at F1
  have part : ∀ {h : Heap} {l : Addr} {a b c d : Value} {nw : List (Addr × Obj)} {L' : Addr}, News s.heap L' h ((l, listOf #[a, b, c, d] 0) :: nw) → h.get? l = some (listOf #[a, b, c, d] 0) := fun N => (N _ List.mem_cons_self).1
  refine item_of (T := "list") (k := 1) (v := .bytes ((row.drop (2 * n)).take 1).toArray _) (by exact part N1) (by exact .inl rfl) (by rfl) (by rfl) (by rfl) (by rfl) (by show 4 ≤ _; omega) ?_
  k_extra "k_steps"
  · have hq : (((row.drop (2 * n)).take 1) != [32]) = true := by assumption
    rw [bne_iff_ne] at hq
    have hrd : rd row n = none := by rw [rd, if_pos (.inl hq)]
    (try dsimp only)
    with_reducible refine hret _ [] _ _ (fr_stays (by assumption)) (List.forall_mem_nil _) ?_
    rw [hrd]; exact ⟨rfl, fun _ => rfl⟩
  have hq1 : (((row.drop (2 * n)).take 1) != [32]) = false := by assumption
  refine item_of (T := "list") (k := 3) (v := .bytes ((row.drop (4 * n + 1)).take 1).toArray _) (by exact part N1) (by exact .inl rfl) (by rfl) (by rfl) (by rfl) (by rfl) (by show 4 ≤ _; omega) ?_
  k_extra "k_steps"
  · have hq : (((row.drop (4 * n + 1)).take 1) != [32]) = true := by assumption
    rw [bne_iff_ne] at hq
    have hrd : rd row n = none := by rw [rd, if_pos (.inr (.inl hq))]
    (try dsimp only)
    with_reducible refine hret _ [] _ _ (fr_stays (by assumption)) (List.forall_mem_nil _) ?_
    rw [hrd]; exact ⟨rfl, fun _ => rfl⟩
  · have hq : (row.drop (4 * n + 2) == []) = true := by assumption
    rw [beq_iff_eq] at hq
    have hrd : rd row n = none := by rw [rd, if_pos (.inr (.inr hq))]
    (try dsimp only)
    with_reducible refine hret _ [] _ _ (fr_stays (by assumption)) (List.forall_mem_nil _) ?_
    rw [hrd]; exact ⟨rfl, fun _ => rfl⟩
  have hq2 : (((row.drop (4 * n + 1)).take 1) != [32]) = false := by assumption
  have hq3 : (row.drop (4 * n + 2) == []) = false := by assumption
  have hrd : rd row n = if idOk (row.take (2 * n)) n = true ∧ idOk ((row.drop (2 * n + 1)).take (2 * n)) n = true then
      some (unhexL (row.take (2 * n)), unhexL ((row.drop (2 * n + 1)).take (2 * n)), row.drop (4 * n + 2)) else none := by
    rw [bne_eq_false_iff_eq] at hq1 hq2
    rw [beq_eq_false_iff_ne] at hq3
    rw [rd, if_neg (by rintro (h | h | h); exact h hq1; exact h hq2; exact hq3 h)]
  clear hq1 hq2 hq3
  refine for_rule (exc := False) (by k_asm) rfl rfl (by rfl) (by rfl) ?_
  k_extra "k_steps"
  rename_i F3 N3
  have part2 : ∀ {h : Heap} {l : Addr} {q : Addr × Obj} {a b c d : Value} {nw : List (Addr × Obj)} {L' : Addr}, News s.heap L' h (q :: (l, listOf #[a, b, c, d] 0) :: nw) → h.get? l = some (listOf #[a, b, c, d] 0) := fun N => (N _ (List.mem_cons_of_mem _ List.mem_cons_self)).1
  refine item_of (T := "list") (k := 0) (v := .bytes (row.take (2 * n)).toArray _) (by exact part2 N3) (by exact .inl rfl) (by rfl) (by rfl) (by rfl) (by rfl) (by show 4 ≤ _; omega) ?_
  k_extra "k_steps"
  refine item_of (T := "list") (k := 2) (v := .bytes ((row.drop (2 * n + 1)).take (2 * n)).toArray _) (by exact part2 N3) (by exact .inl rfl) (by rfl) (by rfl) (by rfl) (by rfl) (by show 4 ≤ _; omega) ?_
  k_extra "k_steps"
  rename_i F4 N4 lt4
  have N5 := news134 N4
  clear part part2 N4
  refine ForGo.inv (σ := List Value × Obj) (xs := [row.take (2 * n), (row.drop (2 * n + 1)).take (2 * n)]) (V := BytV) (fun i st => (∀ p ∈ [row.take (2 * n), (row.drop (2 * n + 1)).take (2 * n)].take i, idOk p n = true) ∧ Rel2 BytV (([row.take (2 * n), (row.drop (2 * n + 1)).take (2 * n)].take i).map unhexL) st.1 ∧ ∃ v₀, st.2.data = .cell v₀) (fun _ => [])
    (fun st => [_, (_, lst st.1), (_, st.2)]) ([], _) (IterOf.rel (ys := [_, _]) (G := BytV) ⟨⟨_, rfl⟩, ⟨_, rfl⟩, trivial⟩ (iter_tuple rfl (N5 _ List.mem_cons_self).1 rfl rfl)) (by exact F4) (by exact N5) (fun _ => rfl) ⟨(fun p hp => (by cases hp)), trivial, _, (by k_asm)⟩ ?_ ?_ (fun x => x.elim)
  · intro i b v; refine pr2 ?_
    intro ys oc h tk hbm hz0 hz1 hS J oJ Q' E' F' N' hne hnext hbrk hret' _
    obtain ⟨u, rfl⟩ := hz0
    obtain ⟨hall, hr, v₀, hcv⟩ := hz1
    dsimp only [ovr] at *
    have hbl : b.length ≤ 100000 := by
      have := List.mem_of_getElem? hbm
      simp only [List.mem_cons, List.not_mem_nil, or_false] at this
      rcases this with rfl | rfl <;> simp only [List.length_take, List.length_drop] <;> omega
    have hno : idOk b n = false → rd row n = none := fun h => by
      have := List.mem_of_getElem? hbm
      simp only [List.mem_cons, List.not_mem_nil, or_false] at this
      rw [hrd]
      refine if_neg fun hh => ?_
      rcases this with rfl | rfl
      · rw [hh.1] at h; cases h
      · rw [hh.2] at h; cases h
    rename_i z0 z1 z2 z3 z4 z5 z6 z7 z8 z9 z10 z11 z12 z13 z14 z15 z16 z17 z18 z19 z20 z21 z22 z23 z24 z25 z26 z27 z28 z29 z30 z31 z32 z33 z34 z35 z36 z37 z38 z39
    revert hb hn B F X T hk hd hu hp hret hexc z0 z1 z2 z4 e1 e2 e3 e4 e5 z8 z12 z16 z20 z23 z28 z30 z31 z32 z35 hrd F4 lt4 N5 hbm hS N' hne hnext hbrk hret' z39 F' hall hr hcv hbl hno; exact hP_a z3 z6 z14 z21 z26 z27 z33 z37 z38 i b ys oc h tk J oJ Q' E' u v₀
  · refine pr2 ?_
    intro ys oc o h' tk' hz0 hS F'' N''
    obtain ⟨hall, hr, v₀, hcv⟩ := hz0
    dsimp only [ovr] at *
    have hrd2 : rd row n = some (unhexL (row.take (2 * n)), unhexL ((row.drop (2 * n + 1)).take (2 * n)), row.drop (4 * n + 2)) := by
      rw [hrd, if_pos ⟨hall _ (by simp), hall _ (by simp)⟩]
    obtain ⟨v1, v2, rfl, ⟨t1, rfl⟩, t2, rfl⟩ : ∃ v1 v2, ys = [v1, v2] ∧ BytV (unhexL (row.take (2 * n))) v1 ∧ BytV (unhexL ((row.drop (2 * n + 1)).take (2 * n))) v2 := by
      match ys, hr with
      | [v1, v2], hr => exact ⟨v1, v2, rfl, hr.1, hr.2.1⟩
    k_extra "k_steps"
    refine item_of (T := "list") (k := 0) (v := .bytes (unhexL (row.take (2 * n))).toArray t1) (o := lst [_, _]) (by exact (N'' _ (List.mem_cons_of_mem _ List.mem_cons_self)).1) (by exact .inl rfl) (by rfl) (by rfl) (by rfl) (by rfl) (by show 2 ≤ _; omega) ?_
    k_extra "k_steps"
    refine item_of (T := "list") (k := 1) (v := .bytes (unhexL ((row.drop (2 * n + 1)).take (2 * n))).toArray t2) (o := lst [_, _]) (by exact (N'' _ (List.mem_cons_of_mem _ List.mem_cons_self)).1) (by exact .inl rfl) (by rfl) (by rfl) (by rfl) (by rfl) (by show 2 ≤ _; omega) ?_
    k_extra "k_steps"
    k_extra "ktr_step"
    k_extra "k_steps"
    refine CompGo.rel (fun c y => TxtV [c.toNat] y) (iter_bytes rfl) (by k_asm) (by k_asm) (List.forall_mem_nil _) (by rw [sizeLine_eq]; simp only [List.length_drop]; omega) ?_ ?_ (fun x => x.elim)
    · intro c v C oC m₂ hc hz0 hn hx I oI D ys h tk Q' E' F' N' off ne hret' _
      obtain ⟨u, rfl⟩ := hz0
      have := c.toNat_lt
      k_extra "k_steps"
      exact hret' _ _ _ F' N' ⟨_, rfl⟩
    · intro ys hr D h tk F' N' o1
      k_extra "k_steps"
      refine tjoin_L empty_S (hr.map' (fun c : UInt8 => [c.toNat]) (fun _ _ h => h)) (News.isList (by k_asm) (by k_mem)) (by rw [List.map_map]; show ((row.drop (4 * n + 2)).map fun _ => 1).sum + 0 * _ ≤ _; rw [sum_ones, List.length_drop]; omega) fun t' k' => ?_
      rw [joinL_nil, tx_flat]
      k_extra "k_steps"
      rename_i F9 N9 l9
      (try dsimp only)
      have n9 : ∀ {h : Heap} {L' : Addr} {q : Addr × Obj} {nw : List (Addr × Obj)}, News s.heap L' h (q :: nw) → ∀ p ∈ [q], h.get? p.1 = some p.2 ∧ s.heap.get? p.1 = none := fun N p hp => by
        rw [List.mem_singleton.mp hp]
        exact ⟨(N _ List.mem_cons_self).1, (N _ List.mem_cons_self).2.2⟩
      with_reducible refine hret _ _ _ _ (fr_stays F9) (n9 N9) ?_
      rw [hrd2]
      exact ⟨⟨_, _, _, _, 0, rfl, rfl⟩, fun h => by cases h⟩⟩
namespace skmain_a
noncomputable def c0 : (Obj) × (Tok) × (Tok) × (Addr) × (Tok) × (Nat) × (Addr) × (Addr) × (Heap) × (Nat) × (List UInt8) × (List Value) × (Obj) × (Heap) × (Nat) × (Addr) × (Obj) × (Flow → Shared → Prop) × (Value → Shared → Prop) × (Tok) × (Option Value) × Unit := pick ⟨⟨default, default, default, default, default, default, default, default, default, default, default, default, default, default, default, default, default, default, default, default, default, ()⟩⟩ fun q => skmain_sb1.1 q.1 q.2.1 q.2.2.1 q.2.2.2.1 q.2.2.2.2.1 q.2.2.2.2.2.1 q.2.2.2.2.2.2.1 q.2.2.2.2.2.2.2.1 q.2.2.2.2.2.2.2.2.1 q.2.2.2.2.2.2.2.2.2.1 q.2.2.2.2.2.2.2.2.2.2.1 q.2.2.2.2.2.2.2.2.2.2.2.1 q.2.2.2.2.2.2.2.2.2.2.2.2.1 q.2.2.2.2.2.2.2.2.2.2.2.2.2.1 q.2.2.2.2.2.2.2.2.2.2.2.2.2.2.1 q.2.2.2.2.2.2.2.2.2.2.2.2.2.2.2.1 q.2.2.2.2.2.2.2.2.2.2.2.2.2.2.2.2.1 q.2.2.2.2.2.2.2.2.2.2.2.2.2.2.2.2.2.1 q.2.2.2.2.2.2.2.2.2.2.2.2.2.2.2.2.2.2.1 q.2.2.2.2.2.2.2.2.2.2.2.2.2.2.2.2.2.2.2.1 q.2.2.2.2.2.2.2.2.2.2.2.2.2.2.2.2.2.2.2.2.1
@[irreducible] noncomputable def z3 : Obj := c0.1
@[irreducible] noncomputable def z6 : Tok := c0.2.1
@[irreducible] noncomputable def z14 : Tok := c0.2.2.1
@[irreducible] noncomputable def z21 : Addr := c0.2.2.2.1
@[irreducible] noncomputable def z26 : Tok := c0.2.2.2.2.1
@[irreducible] noncomputable def z27 : Nat := c0.2.2.2.2.2.1
@[irreducible] noncomputable def z33 : Addr := c0.2.2.2.2.2.2.1
@[irreducible] noncomputable def z37 : Addr := c0.2.2.2.2.2.2.2.1
@[irreducible] noncomputable def z38 : Heap := c0.2.2.2.2.2.2.2.2.1
@[irreducible] noncomputable def i : Nat := c0.2.2.2.2.2.2.2.2.2.1
@[irreducible] noncomputable def b : List UInt8 := c0.2.2.2.2.2.2.2.2.2.2.1
@[irreducible] noncomputable def ys : List Value := c0.2.2.2.2.2.2.2.2.2.2.2.1
@[irreducible] noncomputable def oc : Obj := c0.2.2.2.2.2.2.2.2.2.2.2.2.1
@[irreducible] noncomputable def h : Heap := c0.2.2.2.2.2.2.2.2.2.2.2.2.2.1
@[irreducible] noncomputable def tk : Nat := c0.2.2.2.2.2.2.2.2.2.2.2.2.2.2.1
@[irreducible] noncomputable def J : Addr := c0.2.2.2.2.2.2.2.2.2.2.2.2.2.2.2.1
@[irreducible] noncomputable def oJ : Obj := c0.2.2.2.2.2.2.2.2.2.2.2.2.2.2.2.2.1
@[irreducible] noncomputable def Q' : Flow → Shared → Prop := c0.2.2.2.2.2.2.2.2.2.2.2.2.2.2.2.2.2.1
@[irreducible] noncomputable def E' : Value → Shared → Prop := c0.2.2.2.2.2.2.2.2.2.2.2.2.2.2.2.2.2.2.1
@[irreducible] noncomputable def u : Tok := c0.2.2.2.2.2.2.2.2.2.2.2.2.2.2.2.2.2.2.2.1
@[irreducible] noncomputable def v₀ : Option Value := c0.2.2.2.2.2.2.2.2.2.2.2.2.2.2.2.2.2.2.2.2.1
theorem main : skmain_sb1.1 z3 z6 z14 z21 z26 z27 z33 z37 z38 i b ys oc h tk J oJ Q' E' u v₀ := by
  intro hb hn B F X T hk hd hu hp hret hexc z0 z1 z2 z4 e1 e2 e3 e4 e5 z8 z12 z16 z20 z23 z28 z30 z31 z32 z35 hrd F4 lt4 N5 hbm hS N' hne hnext hbrk hret' z39 F' hall hr hcv hbl hno
  k_extra "k_steps"
  · (try dsimp only)
    have h1 : b.length ≠ 2 * n := by omega
    have h2 : rd row n = none := hno (by rw [idOk, Bool.and_eq_false_iff]; left; simp; omega)
    refine hret' _ _ ?_
    (try dsimp only)
    with_reducible refine hret _ [] _ _ (fr_stays (by assumption)) (List.forall_mem_nil _) ?_
    rw [h2]; exact ⟨rfl, fun _ => rfl⟩
  · have h1 : b.length = 2 * n := by omega
    k_dflt (refine comp_exprI (exc := False) (by k_asm) rfl rfl (fun x => x.elim) (by rfl) (by decide) (by rfl) (by decide) (by rfl) ?_)
    k_extra "k_steps"
    refine' ⟨UInt8, b, OctV, [], ?nw0, fun i ys nw => nw = ?nw0 ∧ Rel2 OctV ((b.take i).filter (fun c => !sigL.contains c)) ys, iter_bytes rfl, ?fF, ?nN, ?sz, ⟨rfl, trivial⟩, ?turn, ?done, fun x => x.elim⟩
    case fF => exact F'
    case nN => exact N'
    case sz => rw [sizeLine_eq]; omega
    case turn =>
      intro i c v ys9 news₁ h tk C oC m₂ hc hz0 hz1 hS hC hx hyl I oI D Q' Qs E' F' N' off ne hret hskip _
      obtain ⟨u, rfl⟩ := hz0
      obtain ⟨rfl, hr⟩ := hz1
      have hlt := c.toNat_lt
      k_extra "k_steps"
      have e : ((c.toNat : Int)).toNat.toUInt8 = c := by simp
      refine notIn_L (b := sigL) (by omega) (by omega) ?_
      rw [e]
      cases hst : sigL.contains c with
      | true =>
        rw [show (!true) = false from rfl]
        k_extra "k_steps"
        exact hskip _ _ _ F' N' off hS ⟨rfl, by rw [filt_take hc, hst]; simpa using hr⟩
      | false =>
        rw [show (!false) = true from rfl]
        k_extra "k_steps"
        exact hret _ _ _ _ F' N' off hS ⟨rfl, by rw [filt_take hc, hst]; exact Rel2.snoc ⟨_, rfl⟩ hr⟩
    case done =>
      rintro ys9 nw ⟨rfl, hr9⟩ hyl9
      rw [List.take_of_length_le (Nat.le_refl _)] at hr9
      intro D6 h tk F' N' o1'
      k_extra "k_steps"
      rename_i Nq lq
      refine ne_empty (xs := ys9) (News.isList Nq (by k_mem)) (News.isList (items := #[]) Nq (by k_mem)) (by k_extra "ktr_room") ?_
      cases hf : b.filter (fun c => !sigL.contains c) with
      | cons c0 r0 =>
        obtain ⟨v1, vr, rfl⟩ : ∃ v1 vr, ys9 = v1 :: vr := by
          rw [hf] at hr9
          match ys9, hr9 with
          | v :: vr, _ => exact ⟨v, vr, rfl⟩
        have hm : c0 ∈ b.filter (fun c => !sigL.contains c) := by rw [hf]; exact List.mem_cons_self
        have h2 : rd row n = none := hno (by
          rw [idOk, Bool.and_eq_false_iff]; right
          rw [List.all_eq_false]
          refine ⟨c0, (List.mem_filter.mp hm).1, ?_⟩
          have := (List.mem_filter.mp hm).2
          rw [sig_contains] at this
          simpa using this)
        rw [show (!(v1 :: vr).isEmpty) = true from rfl]
        k_extra "k_steps"
        (try dsimp only)
        refine hret' _ _ ?_
        (try dsimp only)
        with_reducible refine hret _ [] _ _ (fr_stays (by assumption)) (List.forall_mem_nil _) ?_
        rw [h2]; exact ⟨rfl, fun _ => rfl⟩
      | nil =>
        rw [hf] at hr9
        have hy9 : ys9 = [] := List.length_eq_zero_iff.mp hr9.length
        subst hy9
        have hpl : ∀ c ∈ b, plainC c.toNat = true := fun c hc => by
          have := List.filter_eq_nil_iff.mp hf c hc
          rw [sig_contains] at this
          simpa using this
        have hok : idOk b n = true := by
          rw [idOk, Bool.and_eq_true]
          exact ⟨by simp [h1], List.all_eq_true.mpr hpl⟩
        k_extra "k_steps"
        first | walk1 | (dsimp only; walk1)
        k_extra "ktr_step"
        k_extra "k_steps"
        have Nr := news36 Nq
        clear Nq
        refine CompGo.rel (xs := b) (fun (c : UInt8) y => ∃ u, y = .int (hv c.toNat : Int) u) (iter_bytes rfl) (by k_asm) Nr (List.forall_mem_nil _) (by rw [sizeLine_eq]; omega) ?_ ?_ (fun x => x.elim)
        · intro c v C oC m₂ hc hz0 hnn hx I oI D ys h tk Q' E' F' N' off ne hret' _
          obtain ⟨u, rfl⟩ := hz0
          k_extra "k_steps"
          rename_i N7 l7
          refine bytes_of_list (l := [c]) (vs := [_]) (by k_asm) N7 rfl (News.isList N7 (by k_mem)) ⟨⟨_, rfl⟩, trivial⟩ (by show 1 ≤ _; omega) fun h' t' k' F' N' => ?_
          k_extra "k_steps"
          refine index_L (b := sigL) (sig_find c (hpl c hc)) fun t' k' => ?_
          k_extra "k_steps"
          exact hret' _ _ _ F' (news_weak N' (by simp)) ⟨_, rfl⟩
        · intro ys10 hr10 D7 h tk F' N' o1'
          k_extra "k_steps"
          have q1 := hne _ (List.mem_cons_of_mem _ (List.mem_cons_of_mem _ List.mem_cons_self))
          have q2 := off1_mem o1' _ (List.mem_cons_of_mem _ (List.mem_cons_of_mem _ (List.mem_cons_of_mem _ List.mem_cons_self)))
          refine storeX_C (by k_asm) N' (by rfl) (.tail (Ne.symm q2) (.tail (Ne.symm q1) (.tail (Nat.ne_of_gt (by dsimp only; omega)) (.tail (Nat.ne_of_gt (by dsimp only; omega)) (.head (fun _ h => (by cases h))))))) hcv (fun h' o2 F' N' hd2 => ?_) (by rfl) (by rfl)
          dsimp only at N'
          k_extra "k_steps"
          k_extra "ktr_step"
          k_extra "k_steps"
          have ee : (2 * (n : Int)) = ((2 * n : Nat) : Int) := by omega
          have hl10 := hr10.length
          refine' ⟨Nat, List.range n, _, [], ?nw1, fun i ys nw => nw = ?nw1 ∧ Rel2 OctV (unhexL (b.take (2 * i))) ys, iter_range_by (n := n) rfl (by assumption) (by rw [ee]; exact small2 hn) (by rw [ee]; exact size2 n), ?fF1, ?nN1, ?sz1, ⟨rfl, trivial⟩, ?turn1, ?done1, fun x => x.elim⟩
          case fF1 => k_asm
          case nN1 => k_asm
          case sz1 => rw [sizeLine_eq, List.length_range]; omega
          case turn1 =>
            intro i k v ys news₁ h tk C oC m₂ hk hz0 hz1 hS hC hx hyl I oI D Q' E' F' N' off ne hret _
            obtain ⟨u, rfl⟩ := hz0
            obtain ⟨rfl, hr⟩ := hz1
            obtain ⟨hin, rfl⟩ : i < n ∧ k = i := by
              rw [List.getElem?_eq_some_iff] at hk
              obtain ⟨h1, h2⟩ := hk
              rw [List.length_range] at h1
              rw [List.getElem_range] at h2
              exact ⟨h1, h2.symm⟩
            have g1 : 2 * k < ys10.length := by omega
            have g2 : 2 * k + 1 < ys10.length := by omega
            obtain ⟨x, hx1, u1, hv1⟩ := hr10.get (List.getElem?_eq_getElem g1)
            obtain ⟨y, hy1, u2, hv2⟩ := hr10.get (List.getElem?_eq_getElem g2)
            k_extra "k_steps"
            refine item_of (T := "list") (k := 2 * k) (v := .int (hv x.toNat : Int) u1) (o := lst ys10) (by exact (N' (D7, lst ys10) (by k_mem)).1) (by exact .inl rfl) (by rfl) (by rfl) (by omega) (by rw [← hv1, List.getElem?_toArray]; exact List.getElem?_eq_getElem g1) (by simp only [List.size_toArray]; omega) ?_
            k_extra "k_steps"
            refine item_of (T := "list") (k := 2 * k + 1) (v := .int (hv y.toNat : Int) u2) (o := lst ys10) (by exact (N' (D7, lst ys10) (by k_mem)).1) (by exact .inl rfl) (by rfl) (by rfl) (by omega) (by rw [← hv2, List.getElem?_toArray]; exact List.getElem?_eq_getElem g2) (by simp only [List.size_toArray]; omega) ?_
            k_extra "k_steps"
            refine hret _ _ _ _ F' N' off hS ⟨rfl, ?_⟩
            rw [unhexL_take hx1 hy1]
            exact Rel2.snoc ⟨_, by rw [oct_val (hpl x (List.mem_of_getElem? hx1)) (hpl y (List.mem_of_getElem? hy1))]⟩ hr
          case done1 =>
            rintro ys11 nw ⟨rfl, hr11⟩ hyl11
            rw [List.length_range, List.take_of_length_le (Nat.le_of_eq h1)] at hr11
            intro D8 h tk F' N' o8
            k_extra "k_steps"
            refine bytes_of_list (by k_asm) (by k_asm) rfl (News.isList (by k_asm) (by k_mem)) hr11 (by rw [unhexL_length h1]; omega) fun h' t' k' F' N' => ?_
            k_extra "k_steps"
            have hyl : ys.length ≤ 2 := by
              rw [hr.length, List.length_map, List.length_take]; simp only [List.length_cons, List.length_nil]; omega
            have q3 := hne _ (List.mem_cons_of_mem _ List.mem_cons_self)
            refine append_L [(J, oJ), _] [_] (by k_asm) (by exact news36 N') (fun p hp => ?_) (by omega) fun h' F' N' hs => ?_
            · simp only [List.cons_append, List.nil_append, List.mem_cons, List.not_mem_nil, or_false] at hp
              rcases hp with rfl | rfl | rfl
              · exact Ne.symm q3
              · exact (Nat.ne_of_gt (by dsimp only; omega))
              · exact (Nat.ne_of_lt (by dsimp only; omega))
            k_extra "k_steps"
            refine hnext (ys ++ [_], o2) _ _ _ _ (.inl rfl) F' (fun z hz => ?_) N' (fun p hp => ?_) (fun p hp => ?_) ⟨?_, ?_, _, hd2⟩
            · by_cases hz2 : z = Str.ofString "part"
              · exact absurd hz2 hz
              · (try dsimp only [upd]); rw [if_neg hz2]
            · simp only [List.mem_cons, List.not_mem_nil, or_false] at hp
              rcases hp with rfl | rfl | rfl
              · exact hne _ List.mem_cons_self
              · exact q3
              · exact q1
            · rw [List.mem_singleton.mp hp]
              exact (N' _ (by simp)).1
            · intro p hp
              rw [List.take_add_one, hbm] at hp
              rcases List.mem_append.mp hp with hp | hp
              · exact hall p hp
              · rw [List.mem_singleton.mp hp]; exact hok
            · rw [List.take_add_one, hbm, List.map_append]
              exact hr.snoc ⟨_, rfl⟩
theorem all : ∀ a0 a1 a2 a3 a4 a5 a6 a7 a8 a9 a10 a11 a12 a13 a14 a15 a16 a17 a18 a19 a20, skmain_sb1.1 a0 a1 a2 a3 a4 a5 a6 a7 a8 a9 a10 a11 a12 a13 a14 a15 a16 a17 a18 a19 a20 := by
  have q1 : (fun q : (Obj) × (Tok) × (Tok) × (Addr) × (Tok) × (Nat) × (Addr) × (Addr) × (Heap) × (Nat) × (List UInt8) × (List Value) × (Obj) × (Heap) × (Nat) × (Addr) × (Obj) × (Flow → Shared → Prop) × (Value → Shared → Prop) × (Tok) × (Option Value) × Unit => skmain_sb1.1 q.1 q.2.1 q.2.2.1 q.2.2.2.1 q.2.2.2.2.1 q.2.2.2.2.2.1 q.2.2.2.2.2.2.1 q.2.2.2.2.2.2.2.1 q.2.2.2.2.2.2.2.2.1 q.2.2.2.2.2.2.2.2.2.1 q.2.2.2.2.2.2.2.2.2.2.1 q.2.2.2.2.2.2.2.2.2.2.2.1 q.2.2.2.2.2.2.2.2.2.2.2.2.1 q.2.2.2.2.2.2.2.2.2.2.2.2.2.1 q.2.2.2.2.2.2.2.2.2.2.2.2.2.2.1 q.2.2.2.2.2.2.2.2.2.2.2.2.2.2.2.1 q.2.2.2.2.2.2.2.2.2.2.2.2.2.2.2.2.1 q.2.2.2.2.2.2.2.2.2.2.2.2.2.2.2.2.2.1 q.2.2.2.2.2.2.2.2.2.2.2.2.2.2.2.2.2.2.1 q.2.2.2.2.2.2.2.2.2.2.2.2.2.2.2.2.2.2.2.1 q.2.2.2.2.2.2.2.2.2.2.2.2.2.2.2.2.2.2.2.2.1) (pick ⟨⟨default, default, default, default, default, default, default, default, default, default, default, default, default, default, default, default, default, default, default, default, default, ()⟩⟩ fun q => skmain_sb1.1 q.1 q.2.1 q.2.2.1 q.2.2.2.1 q.2.2.2.2.1 q.2.2.2.2.2.1 q.2.2.2.2.2.2.1 q.2.2.2.2.2.2.2.1 q.2.2.2.2.2.2.2.2.1 q.2.2.2.2.2.2.2.2.2.1 q.2.2.2.2.2.2.2.2.2.2.1 q.2.2.2.2.2.2.2.2.2.2.2.1 q.2.2.2.2.2.2.2.2.2.2.2.2.1 q.2.2.2.2.2.2.2.2.2.2.2.2.2.1 q.2.2.2.2.2.2.2.2.2.2.2.2.2.2.1 q.2.2.2.2.2.2.2.2.2.2.2.2.2.2.2.1 q.2.2.2.2.2.2.2.2.2.2.2.2.2.2.2.2.1 q.2.2.2.2.2.2.2.2.2.2.2.2.2.2.2.2.2.1 q.2.2.2.2.2.2.2.2.2.2.2.2.2.2.2.2.2.2.1 q.2.2.2.2.2.2.2.2.2.2.2.2.2.2.2.2.2.2.2.1 q.2.2.2.2.2.2.2.2.2.2.2.2.2.2.2.2.2.2.2.2.1) := by with_unfolding_all exact main
  exact fun a0 a1 a2 a3 a4 a5 a6 a7 a8 a9 a10 a11 a12 a13 a14 a15 a16 a17 a18 a19 a20 => pick_spec (P := fun q : (Obj) × (Tok) × (Tok) × (Addr) × (Tok) × (Nat) × (Addr) × (Addr) × (Heap) × (Nat) × (List UInt8) × (List Value) × (Obj) × (Heap) × (Nat) × (Addr) × (Obj) × (Flow → Shared → Prop) × (Value → Shared → Prop) × (Tok) × (Option Value) × Unit => skmain_sb1.1 q.1 q.2.1 q.2.2.1 q.2.2.2.1 q.2.2.2.2.1 q.2.2.2.2.2.1 q.2.2.2.2.2.2.1 q.2.2.2.2.2.2.2.1 q.2.2.2.2.2.2.2.2.1 q.2.2.2.2.2.2.2.2.2.1 q.2.2.2.2.2.2.2.2.2.2.1 q.2.2.2.2.2.2.2.2.2.2.2.1 q.2.2.2.2.2.2.2.2.2.2.2.2.1 q.2.2.2.2.2.2.2.2.2.2.2.2.2.1 q.2.2.2.2.2.2.2.2.2.2.2.2.2.2.1 q.2.2.2.2.2.2.2.2.2.2.2.2.2.2.2.1 q.2.2.2.2.2.2.2.2.2.2.2.2.2.2.2.2.1 q.2.2.2.2.2.2.2.2.2.2.2.2.2.2.2.2.2.1 q.2.2.2.2.2.2.2.2.2.2.2.2.2.2.2.2.2.2.1 q.2.2.2.2.2.2.2.2.2.2.2.2.2.2.2.2.2.2.2.1 q.2.2.2.2.2.2.2.2.2.2.2.2.2.2.2.2.2.2.2.2.1) (ne := ⟨⟨default, default, default, default, default, default, default, default, default, default, default, default, default, default, default, default, default, default, default, default, default, ()⟩⟩) q1 ⟨a0, a1, a2, a3, a4, a5, a6, a7, a8, a9, a10, a11, a12, a13, a14, a15, a16, a17, a18, a19, a20, ()⟩
end skmain_a
theorem skmain : skP w mean mg mb dp un gd cn cs a ccd cl outer A₀ base h₀ L m s Q E row tb unT n := skmain_sb1.2 skmain_a.all
theorem skall : skP skc.1.w skc.1.mean skc.1.mg skc.1.mb skc.1.dp skc.1.un skc.1.gd skc.1.cn skc.1.cs skc.1.a skc.1.ccd skc.1.cl skc.1.outer skc.1.A₀ skc.1.base skc.1.h₀ skc.1.L skc.1.m skc.1.s skc.1.Q skc.1.E skc.2.1 skc.2.2.1 skc.2.2.2.1 skc.2.2.2.2.1 := by
  with_unfolding_all exact skmain
end law_cut_specK
theorem law_cut_spec {w : World} {mean : ExcName → Option Value} {mg mb : Str → Option Value} (row : List UInt8) (tb unT : Tok) (n : Nat) (hb : row.length ≤ 100000) (hn : n ≤ 1000) : Spec w mean mg mb 4 255 [.bytes row.toArray tb, .int (n : Int) unT] (fun _ => True) (fun r tl => CutV (rd row n) r tl ∧ (rd row n = none → tl = [])) False := by
  intro dp un gd cn cs a ccd cl outer A₀ base h₀ L m s Q E
  exact pick_spec (P := fun p : Cx × (List UInt8) × (Tok) × (Tok) × (Nat) × Unit => law_cut_specK.skP p.1.w p.1.mean p.1.mg p.1.mb p.1.dp p.1.un p.1.gd p.1.cn p.1.cs p.1.a p.1.ccd p.1.cl p.1.outer p.1.A₀ p.1.base p.1.h₀ p.1.L p.1.m p.1.s p.1.Q p.1.E p.2.1 p.2.2.1 p.2.2.2.1 p.2.2.2.2.1) law_cut_specK.skall (⟨w, mean, mg, mb, dp, un, gd, cn, cs, a, ccd, cl, outer, A₀, base, h₀, L, m, s, Q, E, default, default⟩, row, tb, unT, n, ()) hb hn
end
section
variable {w : World} {mean : ExcName → Option Value} {mg mb : Str → Option Value}
end
end
section
/-- the tape: a list of the numbers' list and a place -/
noncomputable def TapeO (inner : Addr) (o : Obj) : Prop := ∃ (p : Int) (u : Tok) (n : Nat), 0 ≤ p ∧ o.cls = .type "list" ∧ o.data = .seq #[.ref inner, .int p u] n
noncomputable def NumsO (io : Obj) : Prop := ∃ (items : Array Value) (n : Nat), io.cls = .type "list" ∧ io.data = .seq items n ∧ items.size ≤ 60 ∧ ∀ (i : Nat) (v : Value), items[i]? = some v → ∃ (k : Int) (u : Tok), v = .int k u

/-- a call that draws from the tape -/
noncomputable def TSpecAt (w : World) (mean : ExcName → Option Value) (mg mb : Str → Option Value) (dp un : Nat) (gd : Option (List Code)) (cn : Str) (cs : Scope) (a : Addr) (ccd : Value) (cl : List (Str × Addr)) (outer : List Env) (A₀ : Around) (base h₀ : Heap) (L : Addr) (m : Str → Option Value) (s : Shared) (Q E : Value → Shared → Prop) (o io : Obj) (lv : Nat) (f : Addr) (vs : List Value) (t inner : Addr) (pre : Heap → Prop) (post : Value → List (Addr × Obj) → Prop) : Prop :=
    Below A₀ base outer h₀ → Fr h₀ L s.heap m → (hd.heap_1 w.params).In h₀ → Top vw LO mean mg mb h₀ → cs.kind = .function → dp + 4 * lv < recursionLimit → un + 40 * lv < cLine → pre s.heap →
    News h₀ L s.heap [(t, o)] → TapeO inner o → s.heap.get? inner = some io → NumsO io →
    (∀ r tl h' tk' o', (∀ b x, s.heap.get? b = some x → b ≠ t → h'.get? b = some x) → h'.get? t = some o' → TapeO inner o' → (∀ p ∈ tl, h'.get? p.1 = some p.2 ∧ s.heap.get? p.1 = none) → post r tl → Q r { s with heap := h', toks := tk' }) →
    wpAny (model PR w) (ktrTop dp un gd cn cs L a ccd cl outer) (call (.ref f) vs) Q E s
noncomputable def TSpec (w : World) (mean : ExcName → Option Value) (mg mb : Str → Option Value) (lv : Nat) (f : Addr) (vs : List Value) (t inner : Addr) (pre : Heap → Prop) (post : Value → List (Addr × Obj) → Prop) : Prop :=
  ∀ (dp un : Nat) (gd : Option (List Code)) (cn : Str) (cs : Scope) (a : Addr) (ccd : Value) (cl : List (Str × Addr)) (outer : List Env) (A₀ : Around) (base h₀ : Heap) (L : Addr) (m : Str → Option Value) (s : Shared) (Q E : Value → Shared → Prop) (o io : Obj), TSpecAt w mean mg mb dp un gd cn cs a ccd cl outer A₀ base h₀ L m s Q E o io lv f vs t inner pre post

/-- a call that may catch an exception -/
noncomputable def USpecAt (w : World) (mean : ExcName → Option Value) (mg mb : Str → Option Value) (dp un : Nat) (gd : Option (List Code)) (cn : Str) (cs : Scope) (a : Addr) (ccd : Value) (cl : List (Str × Addr)) (outer : List Env) (A₀ : Around) (base h₀ : Heap) (L : Addr) (m : Str → Option Value) (s : Shared) (Q E : Value → Shared → Prop) (lv : Nat) (f : Addr) (vs : List Value) (pre : Heap → Prop) (post : Value → List (Addr × Obj) → Prop) : Prop :=
    Below A₀ base outer h₀ → Fr h₀ L s.heap m → (hd.heap_1 w.params).In base → Top vw LO mean mg mb base → KtsDicts (outer.filterMap (·.frame)) h₀ → cs.kind = .function → dp + 4 * lv < recursionLimit → un + 40 * lv < cLine → pre s.heap →
    (∀ r tl h' tk', Eff ((envX cn cs L a ccd cl :: outer).filterMap (·.frame)) [] s.heap h' → (∀ p ∈ tl, h'.get? p.1 = some p.2 ∧ s.heap.get? p.1 = none) → post r tl → Q r { s with heap := h', toks := tk' }) →
    wpAny (model PR w) (ktrTop dp un gd cn cs L a ccd cl outer) (call (.ref f) vs) Q E s
noncomputable def USpec (w : World) (mean : ExcName → Option Value) (mg mb : Str → Option Value) (lv : Nat) (f : Addr) (vs : List Value) (pre : Heap → Prop) (post : Value → List (Addr × Obj) → Prop) : Prop :=
  ∀ (dp un : Nat) (gd : Option (List Code)) (cn : Str) (cs : Scope) (a : Addr) (ccd : Value) (cl : List (Str × Addr)) (outer : List Env) (A₀ : Around) (base h₀ : Heap) (L : Addr) (m : Str → Option Value) (s : Shared) (Q E : Value → Shared → Prop), USpecAt w mean mg mb dp un gd cn cs a ccd cl outer A₀ base h₀ L m s Q E lv f vs pre post

/-- a call that draws from the tape and may catch an exception, and lays nothing that is asked for later -/
noncomputable def UTSpecAt (w : World) (mean : ExcName → Option Value) (mg mb : Str → Option Value) (dp un : Nat) (gd : Option (List Code)) (cn : Str) (cs : Scope) (a : Addr) (ccd : Value) (cl : List (Str × Addr)) (outer : List Env) (A₀ : Around) (base h₀ : Heap) (L : Addr) (m : Str → Option Value) (s : Shared) (Q E : Value → Shared → Prop) (o io : Obj) (lv : Nat) (f : Addr) (vs : List Value) (t inner : Addr) (pre : Heap → Prop) (post : Value → Prop) : Prop :=
    Below A₀ base outer h₀ → Fr h₀ L s.heap m → (hd.heap_1 w.params).In base → Top vw LO mean mg mb base → KtsDicts (outer.filterMap (·.frame)) h₀ → cs.kind = .function → dp + 4 * lv < recursionLimit → un + 40 * lv < cLine → pre s.heap →
    News h₀ L s.heap [(t, o)] → TapeO inner o → s.heap.get? inner = some io → NumsO io →
    (∀ r h' tk' o', Eff ((envX cn cs L a ccd cl :: outer).filterMap (·.frame)) [t] s.heap h' → h'.get? t = some o' → TapeO inner o' → post r → Q r { s with heap := h', toks := tk' }) →
    wpAny (model PR w) (ktrTop dp un gd cn cs L a ccd cl outer) (call (.ref f) vs) Q E s
noncomputable def UTSpec (w : World) (mean : ExcName → Option Value) (mg mb : Str → Option Value) (lv : Nat) (f : Addr) (vs : List Value) (t inner : Addr) (pre : Heap → Prop) (post : Value → Prop) : Prop :=
  ∀ (dp un : Nat) (gd : Option (List Code)) (cn : Str) (cs : Scope) (a : Addr) (ccd : Value) (cl : List (Str × Addr)) (outer : List Env) (A₀ : Around) (base h₀ : Heap) (L : Addr) (m : Str → Option Value) (s : Shared) (Q E : Value → Shared → Prop) (o io : Obj), UTSpecAt w mean mg mb dp un gd cn cs a ccd cl outer A₀ base h₀ L m s Q E o io lv f vs t inner pre post

section
variable {w : World} {mean : ExcName → Option Value} {mg mb : Str → Option Value} {lv : Nat} {f t inner : Addr} {vs : List Value} {news : List (Addr × Obj)} {pre : Heap → Prop} {post : Value → List (Addr × Obj) → Prop} {dp un : Nat} {gd : Option (List Code)} {cn : Str} {cs : Scope} {a : Addr} {ccd : Value} {cl : List (Str × Addr)} {outer : List Env} {A₀ : Around} {base h₀ : Heap} {L : Addr} {m : Str → Option Value} {s : Shared} {Q E : Value → Shared → Prop} {o io : Obj} {g : Obj → List (Addr × Obj)}
theorem updF_mem {d : Addr} {o : Obj} {l : List (Addr × Obj)} {g : Obj → List (Addr × Obj)} (U : UpdF d o l g) : (d, o) ∈ l := by
  obtain ⟨own, rest, rfl, _⟩ := U.split
  exact List.mem_append_right _ List.mem_cons_self
theorem TSpec.use (S : TSpec w mean mg mb lv f vs t inner pre post) (B : Below A₀ base outer h₀) (F : Fr h₀ L s.heap m) (X : (hd.heap_1 w.params).In h₀) (N : News h₀ L s.heap news) (T : Top vw LO mean mg mb h₀) (hk : cs.kind = .function) (hd : dp + 4 * lv < recursionLimit) (hu : un + 40 * lv < cLine) (hp : pre s.heap)
    (U : UpdF t o news g) (hT : TapeO inner o) (hi : s.heap.get? inner = some io) (hio : NumsO io)
    (h : ∀ r tl h' tk' o', Fr h₀ L h' m → News h₀ L h' (tl ++ g o') → (∀ p ∈ tl, ∀ q ∈ news, p.1 ≠ q.1) → TapeO inner o' → (∀ b x, s.heap.get? b = some x → b ≠ t → h'.get? b = some x) → post r tl → Q r { s with heap := h', toks := tk' }) :
    wpAny (model PR w) (ktrTop dp un gd cn cs L a ccd cl outer) (call (.ref f) vs) Q E s := by
  have ht := N _ (updF_mem U)
  refine S _ _ _ _ _ _ _ _ _ _ _ _ _ _ _ _ _ o io B F X T hk hd hu hp (fun p hp => by rw [List.mem_singleton.mp hp]; exact ht) hT hi hio (fun r tl h' tk' o' st hto hTo htl hp => ?_)
  have hLt : L ≠ t := Ne.symm ht.2.1
  have F' : Fr h₀ L h' m := by
    obtain ⟨oL, es, ep, hL, hLd, r⟩ := F.ns
    exact ⟨⟨oL, es, ep, st _ _ hL hLt, hLd, r⟩, fun b x e => st _ _ (F.keep _ _ e) (fun q => by rw [q, ht.2.2] at e; cases e), F.above⟩
  refine h r tl h' tk' o' F' (fun p hp => ?_) (fun p hp q hq e => ?_) hTo st hp
  · rcases List.mem_append.mp hp with hp | hp
    · refine ⟨(htl p hp).1, fun e => ?_, ?_⟩
      · obtain ⟨o, _, _, ho, _⟩ := F.ns
        rw [← e, (htl p hp).2] at ho; cases ho
      · cases q : h₀.get? p.1 with
        | none => rfl
        | some o => have := F.keep _ _ q; rw [(htl p hp).2] at this; cases this
    · obtain ⟨own, rest, rfl, hg, h1, h2⟩ := U.split
      have key : ∀ q ∈ own ++ (t, o) :: rest, q.1 ≠ t → h'.get? q.1 = some q.2 ∧ q.1 ≠ L ∧ h₀.get? q.1 = none := fun q hq hn => ⟨st _ _ (N q hq).1 hn, (N q hq).2⟩
      rw [hg] at hp
      rcases List.mem_append.mp hp with hp | hp
      · exact key p (List.mem_append_left _ hp) (h1 p hp)
      · rcases List.mem_cons.mp hp with rfl | hp
        · exact ⟨hto, ht.2⟩
        · exact key p (List.mem_append_right _ (List.mem_cons_of_mem _ hp)) (h2 p hp)
  · have := (N q hq).1
    rw [← e, (htl p hp).2] at this; cases this

theorem USpec.use (S : USpec w mean mg mb lv f vs pre post) (B : Below A₀ base outer h₀) (F : Fr h₀ L s.heap m) (X : (hd.heap_1 w.params).In base) (N : News h₀ L s.heap news) (T : Top vw LO mean mg mb base) (D : KtsDicts (outer.filterMap (·.frame)) h₀) (hk : cs.kind = .function) (hd : dp + 4 * lv < recursionLimit) (hu : un + 40 * lv < cLine) (hp : pre s.heap)
    (h : ∀ r tl h' tk' h₁, KtsTurn (outer.filterMap (·.frame)) h₀ h₁ → Below A₀ base outer h₁ → Fr h₁ L h' m → News h₁ L h' (tl ++ news) → (_root_.Mine.hd.heap_1 w.params).In h₁ → Top _root_.Mine.vw LO mean mg mb h₁ → KtsDicts (outer.filterMap (·.frame)) h₁ → (∀ p ∈ tl, ∀ q ∈ news, p.1 ≠ q.1) →
      Eff ((envX cn cs L a ccd cl :: outer).filterMap (·.frame)) [] s.heap h' → post r tl → Q r { s with heap := h', toks := tk' }) :
    wpAny (model PR w) (ktrTop dp un gd cn cs L a ccd cl outer) (call (.ref f) vs) Q E s := by
  refine S _ _ _ _ _ _ _ _ _ _ _ _ _ _ _ _ _ B F X T D hk hd hu hp (fun r tl h' tk' eff htl hp => ?_)
  obtain ⟨h₁, Tn, F₁, B₁⟩ := eff_ground B F eff
  refine h r tl h' tk' h₁ Tn B₁ F₁ (fun p hp => ?_) (X.keeps B₁.stays) (T.keeps B₁.stays) (D.turn Tn) (fun p hp q hq e => ?_) eff hp
  · rcases List.mem_append.mp hp with hp | hp
    · refine ⟨(htl p hp).1, fun e => ?_, Tn.none_ _ ?_⟩
      · obtain ⟨o, _, _, ho, _⟩ := F.ns
        rw [← e, (htl p hp).2] at ho; cases ho
      · cases q : h₀.get? p.1 with
        | none => rfl
        | some o => have := F.keep _ _ q; rw [(htl p hp).2] at this; cases this
    · exact eff_news B N eff Tn p hp
  · have := (N q hq).1
    rw [← e, (htl p hp).2] at this; cases this

theorem UTSpec.use {post : Value → Prop} (S : UTSpec w mean mg mb lv f vs t inner pre post) (B : Below A₀ base outer h₀) (F : Fr h₀ L s.heap m) (X : (hd.heap_1 w.params).In base) (N : News h₀ L s.heap news) (T : Top vw LO mean mg mb base) (D : KtsDicts (outer.filterMap (·.frame)) h₀) (hk : cs.kind = .function) (hd : dp + 4 * lv < recursionLimit) (hu : un + 40 * lv < cLine) (hp : pre s.heap)
    (U : UpdF t o news g) (hT : TapeO inner o) (hi : s.heap.get? inner = some io) (hio : NumsO io)
    (h : ∀ r h' tk' h₁ o', KtsTurn (outer.filterMap (·.frame)) h₀ h₁ → Below A₀ base outer h₁ → Fr h₁ L h' m → News h₁ L h' (g o') → (_root_.Mine.hd.heap_1 w.params).In h₁ → Top _root_.Mine.vw LO mean mg mb h₁ → KtsDicts (outer.filterMap (·.frame)) h₁ → TapeO inner o' →
      Eff ((envX cn cs L a ccd cl :: outer).filterMap (·.frame)) [t] s.heap h' → post r → Q r { s with heap := h', toks := tk' }) :
    wpAny (model PR w) (ktrTop dp un gd cn cs L a ccd cl outer) (call (.ref f) vs) Q E s := by
  have ht := N _ (updF_mem U)
  refine S _ _ _ _ _ _ _ _ _ _ _ _ _ _ _ _ _ o io B F X T D hk hd hu hp (fun p hp => by rw [List.mem_singleton.mp hp]; exact ht) hT hi hio (fun r h' tk' o' eff hto hTo hp => ?_)
  obtain ⟨h₁, Tn, F₁, B₁⟩ := eff_groundW B F (fun b hb => by rw [List.mem_singleton.mp hb]; exact ⟨ht.2.2, ht.2.1⟩) eff
  exact h r h' tk' h₁ o' Tn B₁ F₁ (eff_newsW B N U hto eff Tn) (X.keeps B₁.stays) (T.keeps B₁.stays) (D.turn Tn) hTo eff hp
end
end
section
set_option maxHeartbeats 4000000
section
variable {w : World} {mean : ExcName → Option Value} {mg mb : Str → Option Value}
theorem one_new2 {g h : Heap} {L' : Addr} {q : Addr × Obj} {nw : List (Addr × Obj)} (N : News g L' h (q :: nw)) : ∀ p ∈ [q], h.get? p.1 = some p.2 ∧ g.get? p.1 = none := fun p hp => by
  rw [List.mem_singleton.mp hp]
  exact ⟨(N _ List.mem_cons_self).1, (N _ List.mem_cons_self).2.2⟩
theorem law_told_spec (row : List UInt8) (tb un : Tok) (n : Nat) (hb : row.length ≤ 100000) (hn : n ≤ 1000) : USpec w mean mg mb 6 262 [.bytes row.toArray tb, .int (n : Int) un] (fun _ => True) (fun r tl => CutV (rd row n) r tl ∧ (rd row n = none → tl = [])) := by
  intro dp un gd cn cs a ccd cl outer A₀ base h₀ L m s Q E B F XB TB D hk hd hu hp hret
  have X := XB.keeps B.stays
  have T := TB.keeps B.stays
  refine wpAny_call ?_
  k_dflt k_extra "cell_enter"
  k_extra "k_steps"
  refine wpAny_Try_except ?_
  k_extra "k_steps"
  refine Spec.use (cmd_read_spec row _ _ n hb hn) (by k_asm) (by k_asm) (by k_asm) (by k_asm) (by k_asm) rfl (by k_extra "ktr_room") (by k_extra "ktr_room") trivial ?_ ?_
  · rintro r tl h' tk' F' N' hsep hst ⟨co, cn, cm, c, d, k1, k2, k3, t1, t2, t3, hrd1, rfl, rfl⟩
    k_extra "k_steps"
    rename_i F9 N9 l9
    (try dsimp only)
    with_reducible refine hret _ _ _ _ (Eff.keeps (fr_stays F9)) (one_new2 N9) ?_
    rw [hrd1]
    exact ⟨⟨_, _, _, _, 0, rfl, rfl⟩, fun h => by cases h⟩
  · intro hx e h' tk' R'
    refine caught R' (by k_asm) (by k_asm) (by k_asm) XB TB (by k_dflt k_is) (by rfl) rfl ?_
    intro h' g' Ef Tn F' N' B' X' T'
    k_extra "k_steps"
    dsimp only
    refine hret _ [] _ _ (eff_ret Tn F') (List.forall_mem_nil _) ?_
    rw [hx]
    exact ⟨rfl, fun _ => rfl⟩
end
end
section
set_option maxHeartbeats 4000000
section
variable {w : World} {mean : ExcName → Option Value} {mg mb : Str → Option Value}
/-- a command as a tuple among the objects tl -/
noncomputable def CmdTup (tl : List (Addr × Obj)) (c : Cmd) (v : Value) : Prop := ∃ x t1 t2 t3 k, v = .ref x ∧ (x, cmdT t1 t2 t3 k c) ∈ tl
theorem CmdTup.mono {tl tl' : List (Addr × Obj)} (h : ∀ p ∈ tl, p ∈ tl') {c : Cmd} {v : Value} : CmdTup tl c v → CmdTup tl' c v := by
  rintro ⟨x, t1, t2, t3, k, h1, h2⟩
  exact ⟨x, t1, t2, t3, k, h1, h _ h2⟩
/-- a request as a tuple among the objects tl -/
noncomputable def ReqT (q : Req) (r : Value) (tl : List (Addr × Obj)) : Prop :=
  ∃ x t lc lw nc nw k cvs wvs, r = .ref x ∧ (x, tupO #[.ref lc, .ref lw, .bytes q.2.2.toArray t] k) ∈ tl ∧ (lc, listOf cvs.toArray nc) ∈ tl ∧ (lw, listOf wvs.toArray nw) ∈ tl ∧ Rel2 (CmdTup tl) q.1 cvs ∧ Rel2 (fun wd v => TxtV (tx wd) v) q.2.1 wvs
noncomputable def ReqO (o : Option Req) (r : Value) (tl : List (Addr × Obj)) : Prop := match o with
  | none => r = .none
  | some q => ReqT q r tl
theorem itemRows_length : ∀ {l : List Item} {rows : List (List UInt8)}, itemRows l = some rows → rows.length = l.length
  | [], rows, h => by cases h; rfl
  | .inl _ :: _, rows, h => by cases h
  | .inr b :: l, rows, h => by
    rw [itemRows] at h
    cases hl : itemRows l with
    | none => rw [hl] at h; cases h
    | some rs => rw [hl] at h; cases h; simp [itemRows_length hl]
theorem rds_length {n : Nat} : ∀ {l : List (List UInt8)} {cs : List Cmd}, rds n l = some cs → cs.length = l.length
  | [], cs, h => by cases h; rfl
  | a :: l, cs, h => by
    rw [rds] at h
    cases ha : rd a n with
    | none => rw [ha] at h; cases h
    | some c =>
      rw [ha] at h
      dsimp only at h
      cases hl : rds n l with
      | none => rw [hl] at h; cases h
      | some cs' => rw [hl] at h; cases h; simp [rds_length hl]
theorem rq_le {o : List UInt8} {n : Nat} {q : Req} {B : Nat} (h : rq o n = some q) (hB : o.length ≤ B) : q.1.length ≤ B ∧ q.2.1.length ≤ B + 1 := by
  rw [rq] at h
  cases hp : rp o with
  | none => rw [hp] at h; cases h
  | some r =>
    obtain ⟨its, p⟩ := r
    rw [hp] at h
    dsimp only at h
    split at h
    · cases hi : itemRows its.dropLast with
      | none => rw [hi] at h; cases h
      | some rows =>
        rw [hi] at h
        dsimp only at h
        cases hr : rds n (firstCut rows).1 with
        | none => rw [hr] at h; cases h
        | some cmds =>
          rw [hr] at h
          cases h
          have h1 := rp_le hp
          have h2 := itemRows_length hi
          have h3 := rds_length hr
          have h4 : (firstCut rows).1.length = rows.length := by cases rows <;> rfl
          have h5 := (firstCut_le (B := B) (itemRows_len hi fun l hl => rp_item hp ((List.dropLast_subset _ hl)) hB)).1
          have h6 := splitL_le 32 (firstCut rows).2
          have h7 := List.length_filter_le (fun x => !x.isEmpty) (splitL 32 (firstCut rows).2)
          rw [List.length_dropLast] at h2
          refine ⟨?_, ?_⟩
          · show cmds.length ≤ B
            omega
          · show (splitW (firstCut rows).2).length ≤ B + 1
            unfold splitW
            omega
    · cases h
theorem News.front {h₀ h : Heap} {L : Addr} {a b : Addr × Obj} {l : List (Addr × Obj)} (N : News h₀ L h l) (ha : a ∈ l) (hb : b ∈ l) : News h₀ L h (a :: b :: l) := fun p hp => by
  rcases List.mem_cons.mp hp with rfl | hp
  · exact N _ ha
  · rcases List.mem_cons.mp hp with rfl | hp
    · exact N _ hb
    · exact N p hp
theorem turn3 {h₀ h : Heap} {L I C D : Addr} {q a b : Addr × Obj} {oI oC oD : Obj} {l : List (Addr × Obj)} (N : News h₀ L h (q :: a :: b :: (I, oI) :: (C, oC) :: (D, oD) :: l)) (lt : a.1 < q.1 ∧ b.1 < q.1 ∧ I < q.1 ∧ C < q.1 ∧ D < q.1 ∧ AllLt q.1 l) (off : Off3 I C D l) :
    News h₀ L h ((I, oI) :: (C, oC) :: (D, oD) :: (q :: l)) ∧ Off3 I C D (q :: l) := by
  refine ⟨news_weak N fun p hp => ?_, ⟨⟨Nat.ne_of_gt lt.2.2.1, Nat.ne_of_gt lt.2.2.2.1, Nat.ne_of_gt lt.2.2.2.2.1⟩, off⟩⟩
  simp only [List.mem_cons] at hp ⊢
  rcases hp with h | h | h | h | h <;> simp [h]
theorem req_new {g h : Heap} {L : Addr} {a b c d e : Addr × Obj} {l r : List (Addr × Obj)} (N : News g L h (a :: b :: c :: d :: e :: (l ++ r))) : ∀ p ∈ a :: b :: e :: l, h.get? p.1 = some p.2 ∧ g.get? p.1 = none := fun p hp => by
  have := N p (by
    simp only [List.mem_cons, List.mem_append] at hp ⊢
    rcases hp with h | h | h | h <;> simp [h])
  exact ⟨this.1, this.2.2⟩
end
section
namespace law_request_specK
noncomputable def skP (w : World) (mean : ExcName → Option Value) (mg : Str → Option Value) (mb : Str → Option Value) (dp : Nat) (un : Nat) (gd : Option (List Code)) (cn : Str) (cs : Scope) (a : Addr) (ccd : Value) (cl : List (Str × Addr)) (outer : List Env) (A₀ : Around) (base : Heap) (h₀ : Heap) (L : Addr) (m : Str → Option Value) (s : Shared) (Q : Value → Shared → Prop) (E : Value → Shared → Prop) (o : List UInt8) (tb : Tok) (unT : Tok) (n : Nat) : Prop :=
  (o.length ≤ 100000) → (n ≤ 1000) → USpecAt w mean mg mb dp un gd cn cs a ccd cl outer A₀ base h₀ L m s Q E 8 274 [.bytes o.toArray tb, .int (n : Int) unT] (fun _ => True) (fun r tl => ReqO (rq o n) r tl)
noncomputable def skc : Cx × (List UInt8) × (Tok) × (Tok) × (Nat) × Unit := pick ⟨(cx0, default, default, default, default, ())⟩ (fun p : Cx × (List UInt8) × (Tok) × (Tok) × (Nat) × Unit => skP p.1.w p.1.mean p.1.mg p.1.mb p.1.dp p.1.un p.1.gd p.1.cn p.1.cs p.1.a p.1.ccd p.1.cl p.1.outer p.1.A₀ p.1.base p.1.h₀ p.1.L p.1.m p.1.s p.1.Q p.1.E p.2.1 p.2.2.1 p.2.2.2.1 p.2.2.2.2.1)
@[irreducible] noncomputable def w : World := skc.1.w
@[irreducible] noncomputable def mean : ExcName → Option Value := skc.1.mean
@[irreducible] noncomputable def mg : Str → Option Value := skc.1.mg
@[irreducible] noncomputable def mb : Str → Option Value := skc.1.mb
@[irreducible] noncomputable def dp : Nat := skc.1.dp
@[irreducible] noncomputable def un : Nat := skc.1.un
@[irreducible] noncomputable def gd : Option (List Code) := skc.1.gd
@[irreducible] noncomputable def cn : Str := skc.1.cn
@[irreducible] noncomputable def cs : Scope := skc.1.cs
@[irreducible] noncomputable def a : Addr := skc.1.a
@[irreducible] noncomputable def ccd : Value := skc.1.ccd
@[irreducible] noncomputable def cl : List (Str × Addr) := skc.1.cl
@[irreducible] noncomputable def outer : List Env := skc.1.outer
@[irreducible] noncomputable def A₀ : Around := skc.1.A₀
@[irreducible] noncomputable def base : Heap := skc.1.base
@[irreducible] noncomputable def h₀ : Heap := skc.1.h₀
@[irreducible] noncomputable def L : Addr := skc.1.L
@[irreducible] noncomputable def m : Str → Option Value := skc.1.m
@[irreducible] noncomputable def s : Shared := skc.1.s
@[irreducible] noncomputable def Q : Value → Shared → Prop := skc.1.Q
@[irreducible] noncomputable def E : Value → Shared → Prop := skc.1.E
@[irreducible] noncomputable def o : List UInt8 := skc.2.1
@[irreducible] noncomputable def tb : Tok := skc.2.2.1
@[irreducible] noncomputable def unT : Tok := skc.2.2.2.1
@[irreducible] noncomputable def n : Nat := skc.2.2.2.2.1
noncomputable def en : { P : Addr → Heap → Prop // (∀ L' h', P L' h') → skP w mean mg mb dp un gd cn cs a ccd cl outer A₀ base h₀ L m s Q E o tb unT n } :=
  ⟨_, by
  intro hP hb hn B F XB TB D hk hd hu hp hret
  have X := XB.keeps B.stays
  have T := TB.keeps B.stays
  refine wpAny_call ?_
  k_dflt k_extra "enP"⟩
noncomputable def enc : Addr × Heap := pick ⟨default⟩ fun p => en.1 p.1 p.2
@[irreducible] noncomputable def L' : Addr := enc.1
@[irreducible] noncomputable def h' : Heap := enc.2
theorem enall (q : en.1 L' h') : ∀ a b, en.1 a b := by
  have q1 : (fun p : Addr × Heap => en.1 p.1 p.2) (pick ⟨default⟩ fun p => en.1 p.1 p.2) := by with_unfolding_all exact q
  exact fun a b => pick_spec (P := fun p : Addr × Heap => en.1 p.1 p.2) (ne := ⟨default⟩) q1 (a, b)
theorem skmain : skP w mean mg mb dp un gd cn cs a ccd cl outer A₀ base h₀ L m s Q E o tb unT n := by
  intro hb hn B F XB TB D hk hd hu hp hret
  have X := XB.keeps B.stays
  have T := TB.keeps B.stays
  refine en.2 (enall ?_) hb hn B F XB TB D hk hd hu hp hret
  intro _ _ _ _ _
  (try dsimp only)
  k_extra "k_steps"
  refine wpAny_Try_except ?_
  k_extra "k_steps"
  refine Spec.use (req_read_spec o _ _ n hb hn) (by k_asm) (by k_asm) (by k_asm) (by k_asm) (by k_asm) rfl (by k_extra "ktr_room") (by k_extra "ktr_room") trivial ?_ ?_
  · rintro r tl h' tk' F' N' hsep hst ⟨⟨cmds, wds, pk⟩, hrq, c, d, k1, k2, k3, t, lc, lw, nc, nw, cvs, wvs, objs, rfl, hw, hc, rfl⟩
    dsimp only [List.cons_append, List.append_nil] at N' hc hw
    have hle := rq_le hrq hb
    have hl1 := hc.length
    have hl2 := hw.length
    dsimp only at hle
    k_extra "k_steps"
    k_extra "ktr_units"
    k_extra "k_steps"
    rename_i F1 N1
    refine' ⟨Cmd, cmds, CmdIn w objs, [(lc, listOf cvs.toArray nc)], ?nw0, fun i ys nw => ∃ new, nw = new ++ ?nw0 ∧ Rel2 (CmdTup new) (cmds.take i) ys, IterOf.rel hc (iter_list (ol := listOf cvs.toArray nc) rfl (N1 (lc, _) (by k_mem)).1 rfl rfl), ?fF, ?nN, ?sz, ⟨[], rfl, trivial⟩, ?turn, ?done, fun x => x.elim⟩
    case fF => k_asm
    case nN => exact N1
    case sz => rw [sizeLine_eq]; omega
    case turn =>
      intro i cm v ys news₁ h tk C oC m₂ hcm hz0 hz1 hS hC hx hyl I oI D Q' E' F' N' off ne hret _
      obtain ⟨cc, dd, k1, k2, k3, t1, t2, t3, rfl, hm1, hm2⟩ := hz0
      obtain ⟨new, rfl, hr⟩ := hz1
      have N2 := Mine.News.front (h₀ := s.heap) (a := (cc, instObj 181 dd)) (b := (dd, cmdD w k1 k2 k3 (.bytes cm.1.toArray t1) (.bytes cm.2.1.toArray t2) (.str (S (tx cm.2.2)) t3))) N' (by simp [hm1]) (by simp [hm2])
      k_extra "k_steps"
      rename_i F2 N3 l3
      obtain ⟨Nn, On⟩ := turn3 N3 l3 off
      refine hret _ (_ :: _) _ _ F2 Nn On (fun p hp => ?_) ⟨_ :: new, rfl, ?_⟩
      · rw [List.mem_singleton.mp hp]
        exact (Nn (lc, listOf cvs.toArray nc) (by simp)).1
      · rw [List.take_add_one, hcm]
        exact (hr.mono fun _ _ => CmdTup.mono fun p hp => List.mem_cons_of_mem _ hp).snoc ⟨_, _, _, _, _, rfl, List.mem_cons_self⟩
    case done =>
      rintro ys nw ⟨new, rfl, hr⟩ hyl
      rw [List.take_length] at hr
      intro D5 h tk F' N' o1
      have N2 := Mine.News.front (h₀ := s.heap) (a := (c, instObj 219 d)) (b := (d, reqD w k1 k2 k3 (Value.ref lc) (Value.ref lw) (Value.bytes pk.toArray t))) N' (by simp) (by simp)
      have hlw := (N' (lw, listOf wvs.toArray nw) (by simp)).1
      clear N'
      k_extra "k_steps"
      refine list_of (T := "list") (l := lw) (by k_asm) (by k_asm) (by exact hlw) (.inl rfl) rfl rfl (by simp only [List.size_toArray]; omega) fun D2 c2 h' F' N' hst2 hap2 hD2 => ?_
      k_extra "k_steps"
      rename_i F9 N9 l9
      show Q (.ref _) _
      have hnew := req_new N9
      with_reducible refine hret _ _ _ _ (Eff.keeps (fr_stays F9)) hnew ?_
      rw [hrq]
      exact ⟨_, _, _, _, _, _, 0, ys, wvs, rfl, List.mem_cons_self, List.mem_cons_of_mem _ (List.mem_cons_of_mem _ List.mem_cons_self), List.mem_cons_of_mem _ List.mem_cons_self, hr.mono fun _ _ => CmdTup.mono fun p hp => List.mem_cons_of_mem _ (List.mem_cons_of_mem _ (List.mem_cons_of_mem _ hp)), hw⟩
  · intro hx e h' tk' R'
    refine caught R' (by k_asm) (by k_asm) (by k_asm) XB TB (by k_dflt k_is) (by rfl) rfl ?_
    intro h' g' Ef Tn F' N' B' X' T'
    k_extra "k_steps"
    dsimp only
    refine hret _ [] _ _ (eff_ret Tn F') (List.forall_mem_nil _) ?_
    rw [hx]
    rfl
theorem skall : skP skc.1.w skc.1.mean skc.1.mg skc.1.mb skc.1.dp skc.1.un skc.1.gd skc.1.cn skc.1.cs skc.1.a skc.1.ccd skc.1.cl skc.1.outer skc.1.A₀ skc.1.base skc.1.h₀ skc.1.L skc.1.m skc.1.s skc.1.Q skc.1.E skc.2.1 skc.2.2.1 skc.2.2.2.1 skc.2.2.2.2.1 := by
  with_unfolding_all exact skmain
end law_request_specK
theorem law_request_spec {w : World} {mean : ExcName → Option Value} {mg mb : Str → Option Value} (o : List UInt8) (tb unT : Tok) (n : Nat) (hb : o.length ≤ 100000) (hn : n ≤ 1000) : USpec w mean mg mb 8 274 [.bytes o.toArray tb, .int (n : Int) unT] (fun _ => True) (fun r tl => ReqO (rq o n) r tl) := by
  intro dp un gd cn cs a ccd cl outer A₀ base h₀ L m s Q E
  exact pick_spec (P := fun p : Cx × (List UInt8) × (Tok) × (Tok) × (Nat) × Unit => law_request_specK.skP p.1.w p.1.mean p.1.mg p.1.mb p.1.dp p.1.un p.1.gd p.1.cn p.1.cs p.1.a p.1.ccd p.1.cl p.1.outer p.1.A₀ p.1.base p.1.h₀ p.1.L p.1.m p.1.s p.1.Q p.1.E p.2.1 p.2.2.1 p.2.2.2.1 p.2.2.2.2.1) law_request_specK.skall (⟨w, mean, mg, mb, dp, un, gd, cn, cs, a, ccd, cl, outer, A₀, base, h₀, L, m, s, Q, E, default, default⟩, o, tb, unT, n, ()) hb hn
end
section
variable {w : World} {mean : ExcName → Option Value} {mg mb : Str → Option Value}
end
end
section
set_option maxHeartbeats 4000000
section
variable {w : World} {mean : ExcName → Option Value} {mg mb : Str → Option Value}
theorem inner_ne {t inner : Addr} {o io : Obj} {h : Heap} (hT : TapeO inner o) (hi : h.get? inner = some io) (hio : NumsO io) (ht : h.get? t = some o) : inner ≠ t := by
  rintro rfl
  rw [ht] at hi
  cases hi
  obtain ⟨p, u, nn, hp0, hoc, hod⟩ := hT
  obtain ⟨items, n2, hic, hid, hisz, hints⟩ := hio
  rw [hod] at hid
  cases hid
  obtain ⟨k, u', h⟩ := hints 0 _ rfl
  cases h
theorem law_draw_spec (t inner : Addr) (sz : Int) (u : Tok) (h1 : 0 < sz) : TSpec w mean mg mb 2 230 [.ref t, .int sz u] t inner (fun _ => True) (fun r tl => tl = [] ∧ ∃ v u', r = .int v u' ∧ 0 ≤ v ∧ v < sz) := by
  intro dp un gd cn cs a ccd cl outer A₀ base h₀ L m s Q E o io B F X T hk hd hu hp N hT hi hio hret
  have hit := inner_ne hT hi hio (N _ List.mem_cons_self).1
  refine wpAny_call ?_
  k_extra "ktr_enter"
  obtain ⟨p, u1, nn, hp0, hoc, hod⟩ := hT
  obtain ⟨items, n2, hic, hid, hisz, hints⟩ := hio
  k_extra "k_steps"
  rename_i F1 N1 B1 X1 T1 hL1
  have hin0 : (hideAll s.heap [t]).get? inner = some io := hideAll_get _ hi (by simpa using hit)
  refine item_of (T := "list") (k := 1) (v := .int p u1) (by exact (N1 _ List.mem_cons_self).1) (.inl rfl) hoc hod (by rfl) (by rfl) (by show 2 ≤ _; omega) ?_
  k_extra "k_steps"
  refine setitem_L (k := 1) [] [] F1 N1 hoc hod (fun p hp => by cases hp) (by show 1 < 2; omega) (by show 2 ≤ _; omega) fun h' o' n' F' N' hc' hd' => ?_
  have hd2 : o'.data = .seq #[.ref inner, .int (p + 1) _] n' := hd'
  have hTo' : TapeO inner o' := ⟨p + 1, _, n', by omega, hc', hd2⟩
  k_extra "k_steps"
  refine item_of (T := "list") (k := 1) (v := .int (p + 1) _) (by exact (N' _ List.mem_cons_self).1) (.inl rfl) hc' hd2 (by rfl) (by rfl) (by show 2 ≤ _; omega) ?_
  k_extra "k_steps"
  refine item_of (T := "list") (k := 0) (v := .ref inner) (by exact (N' _ List.mem_cons_self).1) (.inl rfl) hc' hd2 (by rfl) (by rfl) (by show 2 ≤ _; omega) ?_
  k_extra "k_steps"
  have hin : ∀ {h : Heap} {L' : Addr} {m : Str → Option Value}, Fr (hideAll s.heap [t]) L' h m → h.get? inner = some io := fun F => F.keep _ _ hin0
  refine len_list (items := items) ⟨io, hin (by k_asm), hic, n2, hid⟩ (by omega) ?_
  k_extra "k_steps"
  · refine item_of (T := "list") (k := 0) (v := .ref inner) (by exact (N' _ List.mem_cons_self).1) (.inl rfl) hc' hd2 (by rfl) (by rfl) (by show 2 ≤ _; omega) ?_
    k_extra "k_steps"
    refine item_of (T := "list") (k := 1) (v := .int (p + 1) _) (by exact (N' _ List.mem_cons_self).1) (.inl rfl) hc' hd2 (by rfl) (by rfl) (by show 2 ≤ _; omega) ?_
    k_extra "k_steps"
    have hlt : p.toNat < items.size := by omega
    obtain ⟨kk, uk, hkk⟩ := hints p.toNat items[p.toNat] (Array.getElem?_eq_getElem hlt)
    refine kba_turn (value' := PySem.Expr.Name (PySem.Str.ofString "_") ⟨0, 0, 0, 0⟩) (fun _ => rfl) ?_
    refine item_of (T := "list") (k := p.toNat) (v := .int kk uk) (by exact hin (by k_asm)) (.inl rfl) hic hid (by omega) (by rw [← hkk]; exact Array.getElem?_eq_getElem hlt) (by omega) ?_
    k_extra "k_steps"
    with_reducible refine hret _ [] _ _ o' ?_ ?_ hTo' (List.forall_mem_nil _) ⟨rfl, _, _, rfl, Int.fmod_nonneg_of_pos _ h1, Int.fmod_lt_of_pos _ h1⟩
    · exact fun b x e hb => (fr_stays (by k_asm) : (hideAll s.heap [t]).StaysIn _) _ _ (hideAll_get _ e (by simpa using hb))
    · exact (N' _ List.mem_cons_self).1
  · with_reducible refine hret _ [] _ _ o' ?_ ?_ hTo' (List.forall_mem_nil _) ⟨rfl, _, _, rfl, Int.le_refl _, h1⟩
    · exact fun b x e hb => (fr_stays (by k_asm) : (hideAll s.heap [t]).StaysIn _) _ _ (hideAll_get _ e (by simpa using hb))
    · exact (N' _ List.mem_cons_self).1
end
section
variable {w : World} {mean : ExcName → Option Value} {mg mb : Str → Option Value} {t inner : Addr} {rest : List (Addr × Obj)} {sz : Int} {u : Tok} {dp un : Nat} {gd : Option (List Code)} {cn : Str} {cs : Scope} {a : Addr} {ccd : Value} {cl : List (Str × Addr)} {outer : List Env} {A₀ : Around} {base h₀ : Heap} {L : Addr} {m : Str → Option Value} {s : Shared} {Q E : Value → Shared → Prop} {o io : Obj}
/-- a number drawn from the tape, which stands first in the ledger -/
theorem draw (B : Below A₀ base outer h₀) (F : Fr h₀ L s.heap m) (X : (hd.heap_1 w.params).In h₀) (N : News h₀ L s.heap ((t, o) :: rest)) (T : Top vw LO mean mg mb h₀) (hk : cs.kind = .function) (hd : dp + 4 * 2 < recursionLimit) (hu : un + 40 * 2 < cLine)
    (hr : ∀ p ∈ rest, p.1 ≠ t) (hT : TapeO inner o) (hi : s.heap.get? inner = some io) (hio : NumsO io) (h1 : 0 < sz)
    (h : ∀ v u' h' tk' o', 0 ≤ v → v < sz → Fr h₀ L h' m → News h₀ L h' ((t, o') :: rest) → TapeO inner o' → (∀ b x, s.heap.get? b = some x → b ≠ t → h'.get? b = some x) → Q (.int v u') { s with heap := h', toks := tk' }) :
    wpAny (model PR w) (ktrTop dp un gd cn cs L a ccd cl outer) (call (.ref 230) [.ref t, .int sz u]) Q E s := by
  refine TSpec.use (law_draw_spec t inner sz u h1) B F X N T hk hd hu trivial (.head hr) hT hi hio ?_
  rintro r tl h' tk' o' F' N' _ hT' hst ⟨rfl, v, u', rfl, h0, h2⟩
  exact h v u' h' tk' o' h0 h2 F' N' hT' hst
end
theorem tape_front' {h₀ h : Heap} {L t x : Addr} {o ox : Obj} {R : List (Addr × Obj)} (N : News h₀ L h ((x, ox) :: (t, o) :: R)) (q : t ≠ x) (hR : ∀ p ∈ R, p.1 ≠ t) :
    News h₀ L h ((t, o) :: (x, ox) :: R) ∧ ∀ p ∈ (x, ox) :: R, p.1 ≠ t := by
  refine ⟨news_weak N fun p hp => ?_, fun p hp => ?_⟩
  · simp only [List.mem_cons] at hp ⊢
    rcases hp with h | h | h <;> simp [h]
  · rcases List.mem_cons.mp hp with rfl | hp
    · exact Ne.symm q
    · exact hR p hp
theorem tape_front {h₀ h : Heap} {L t : Addr} {o : Obj} {d : Addr × Obj} {R : List (Addr × Obj)} (N : News h₀ L h (d :: (t, o) :: R)) (l : t < d.1) (hR : ∀ p ∈ R, p.1 ≠ t) :
    News h₀ L h ((t, o) :: d :: R) ∧ ∀ p ∈ d :: R, p.1 ≠ t := tape_front' N (Nat.ne_of_lt l) hR
end
section
set_option maxHeartbeats 4000000
section
variable {w : World} {mean : ExcName → Option Value} {mg mb : Str → Option Value}
/-- the names that a command may have -/
noncomputable def lawNames : List (List UInt8) := [[114, 101, 102, 115, 47, 104, 101, 97, 100, 115, 47, 97],
 [114, 101, 102, 115, 47, 116, 97, 103, 115, 47, 118, 32, 49],
 [120],
 [114, 101, 102, 115, 47, 104, 101, 97, 100, 115, 47, 97, 32, 98, 32, 32, 99],
 [72, 69, 65, 68]]
noncomputable def okCmd (n : Nat) (c : Cmd) : Prop := c.1.length = n ∧ c.2.1.length = n ∧ c.2.2 ∈ lawNames
theorem size1 (n : Nat) : Builtin.Range.rangeSize 0 ((n : Nat) : Int) 1 = (n : Int) := by
  unfold Builtin.Range.rangeSize
  rw [if_pos (by decide)]
  split <;> omega
theorem small1 {n : Nat} (h : n ≤ 1000) : Builtin.Range.small 0 ((n : Nat) : Int) 1 = true := by
  unfold Builtin.Range.small
  rw [size1 n]
  simp [Builtin.Range.rangeFitsLong]; omega
theorem oct_mod (x : Int) (u : Tok) : OctV ((x.fmod 256).toNat.toUInt8) (.int (x.fmod 256) u) := by
  have h1 := Int.fmod_nonneg_of_pos x (show (0 : Int) < 256 by decide)
  have h2 := Int.fmod_lt_of_pos x (show (0 : Int) < 256 by decide)
  refine ⟨u, ?_⟩
  congr 1
  have : (x.fmod 256).toNat < 256 := by omega
  simp; omega
theorem News.pick25 {h₀ h : Heap} {L : Addr} {a b c d e : Addr × Obj} {l : List (Addr × Obj)} (N : News h₀ L h (a :: b :: c :: d :: e :: l)) : News h₀ L h ([d, b] ++ e :: l) := news_weak N fun p hp => by
  simp only [List.cons_append, List.nil_append, List.mem_cons] at hp ⊢
  rcases hp with h | h | h | h <;> simp [h]
theorem News.pick26 {h₀ h : Heap} {L : Addr} {x t d i j f c : Addr × Obj} {l : List (Addr × Obj)} (N : News h₀ L h (x :: t :: d :: i :: j :: f :: c :: l)) : News h₀ L h ([j, t] ++ f :: c :: x :: l) := news_weak N fun p hp => by
  simp only [List.cons_append, List.nil_append, List.mem_cons] at hp ⊢
  rcases hp with h | h | h | h | h | h <;> simp [h]
theorem hide_none {h : Heap} {W : List Addr} {b : Addr} (e : (hideAll h W).get? b = none) (hb : b ∉ W) : h.get? b = none := by
  cases q : h.get? b with
  | none => rfl
  | some o => rw [hideAll_get W q hb] at e; cases e
end
section
namespace law_commands_specK
noncomputable def skP (w : World) (mean : ExcName → Option Value) (mg : Str → Option Value) (mb : Str → Option Value) (dp : Nat) (un : Nat) (gd : Option (List Code)) (cn : Str) (cs : Scope) (a : Addr) (ccd : Value) (cl : List (Str × Addr)) (outer : List Env) (A₀ : Around) (base : Heap) (h₀ : Heap) (L : Addr) (m : Str → Option Value) (s : Shared) (Q : Value → Shared → Prop) (E : Value → Shared → Prop) (o : Obj) (io : Obj) (t : Addr) (inner : Addr) (u : Tok) (n : Nat) : Prop :=
  (n ≤ 4) → TSpecAt w mean mg mb dp un gd cn cs a ccd cl outer A₀ base h₀ L m s Q E o io 3 245 [.ref t, .int (n : Int) u] t inner (fun _ => True)
    (fun r tl => ∃ l vs nv cmds objs, r = .ref l ∧ tl = (l, listOf vs.toArray nv) :: objs ∧ Rel2 (CmdTup objs) cmds vs ∧ cmds.length ≤ 4 ∧ ∀ c ∈ cmds, okCmd n c)
noncomputable def skc : Cx × (Addr) × (Addr) × (Tok) × (Nat) × Unit := pick ⟨(cx0, default, default, default, default, ())⟩ (fun p : Cx × (Addr) × (Addr) × (Tok) × (Nat) × Unit => skP p.1.w p.1.mean p.1.mg p.1.mb p.1.dp p.1.un p.1.gd p.1.cn p.1.cs p.1.a p.1.ccd p.1.cl p.1.outer p.1.A₀ p.1.base p.1.h₀ p.1.L p.1.m p.1.s p.1.Q p.1.E p.1.o p.1.io p.2.1 p.2.2.1 p.2.2.2.1 p.2.2.2.2.1)
@[irreducible] noncomputable def w : World := skc.1.w
@[irreducible] noncomputable def mean : ExcName → Option Value := skc.1.mean
@[irreducible] noncomputable def mg : Str → Option Value := skc.1.mg
@[irreducible] noncomputable def mb : Str → Option Value := skc.1.mb
@[irreducible] noncomputable def dp : Nat := skc.1.dp
@[irreducible] noncomputable def un : Nat := skc.1.un
@[irreducible] noncomputable def gd : Option (List Code) := skc.1.gd
@[irreducible] noncomputable def cn : Str := skc.1.cn
@[irreducible] noncomputable def cs : Scope := skc.1.cs
@[irreducible] noncomputable def a : Addr := skc.1.a
@[irreducible] noncomputable def ccd : Value := skc.1.ccd
@[irreducible] noncomputable def cl : List (Str × Addr) := skc.1.cl
@[irreducible] noncomputable def outer : List Env := skc.1.outer
@[irreducible] noncomputable def A₀ : Around := skc.1.A₀
@[irreducible] noncomputable def base : Heap := skc.1.base
@[irreducible] noncomputable def h₀ : Heap := skc.1.h₀
@[irreducible] noncomputable def L : Addr := skc.1.L
@[irreducible] noncomputable def m : Str → Option Value := skc.1.m
@[irreducible] noncomputable def s : Shared := skc.1.s
@[irreducible] noncomputable def Q : Value → Shared → Prop := skc.1.Q
@[irreducible] noncomputable def E : Value → Shared → Prop := skc.1.E
@[irreducible] noncomputable def o : Obj := skc.1.o
@[irreducible] noncomputable def io : Obj := skc.1.io
@[irreducible] noncomputable def t : Addr := skc.2.1
@[irreducible] noncomputable def inner : Addr := skc.2.2.1
@[irreducible] noncomputable def u : Tok := skc.2.2.2.1
@[irreducible] noncomputable def n : Nat := skc.2.2.2.2.1
noncomputable def en : { P : Addr → Heap → Tok → Prop // (∀ L' h' tk', P L' h' tk') → skP w mean mg mb dp un gd cn cs a ccd cl outer A₀ base h₀ L m s Q E o io t inner u n } :=
  ⟨_, by
  intro hP hn B F X T hk hd hu hp N hT hi hio hret
  have hit := inner_ne hT hi hio (N _ List.mem_cons_self).1
  refine wpAny_call ?_
  k_dflt k_extra "enCM"⟩
noncomputable def enc : Addr × Heap × Tok := pick ⟨default⟩ fun p => en.1 p.1 p.2.1 p.2.2
@[irreducible] noncomputable def L' : Addr := enc.1
@[irreducible] noncomputable def h' : Heap := enc.2.1
@[irreducible] noncomputable def tk' : Tok := enc.2.2
theorem enall (q : en.1 L' h' tk') : ∀ a b c, en.1 a b c := by
  have q1 : (fun p : Addr × Heap × Tok => en.1 p.1 p.2.1 p.2.2) (pick ⟨default⟩ fun p => en.1 p.1 p.2.1 p.2.2) := by with_unfolding_all exact q
  exact fun a b c => pick_spec (P := fun p : Addr × Heap × Tok => en.1 p.1 p.2.1 p.2.2) (ne := ⟨default⟩) q1 (a, b, c)
noncomputable def skmain_sb1 : { pQ : (Obj) → (Addr) → (Heap) → (Int) → (Heap) → (Obj) → (Heap) → (Nat) → (Tok) → (Tok) → (Tok) → (Nat) → (Nat) → (List Cmd) → (List Value) → (List (Addr × Obj)) → (Obj) → (Obj) → (Option Value) → (Option Value) → (Option Value) → (Heap) → (Nat) → (Addr) → (Obj) → (Flow → Shared → Prop) → (Value → Shared → Prop) → (Tok) → (Option Value) → Prop // (∀ (oc : Obj) (fnd : Addr) (h2 : Heap) (v : Int) (h' : Heap) (o1 : Obj) (z6 : Heap) (z7 : Nat) (z8 : Tok) (z9 : Tok) (z10 : Tok) (i : Nat) (k : Nat) (cmds : List Cmd) (vs : List Value) (objs : List (Addr × Obj)) (o2 : Obj) (oc2 : Obj) (n1 : Option Value) (n2 : Option Value) (n3 : Option Value) (h : Heap) (tk : Nat) (J : Addr) (oJ : Obj) (Q' : Flow → Shared → Prop) (E' : Value → Shared → Prop) (u1 : Tok) (v₀ : Option Value), pQ oc fnd h2 v h' o1 z6 z7 z8 z9 z10 i k cmds vs objs o2 oc2 n1 n2 n3 h tk J oJ Q' E' u1 v₀) → (skP w mean mg mb dp un gd cn cs a ccd cl outer A₀ base h₀ L m s Q E o io t inner u n) } := ⟨_, by
  intro hP_a
  intro hn B F X T hk hd hu hp N hT hi hio hret
  have hit := inner_ne hT hi hio (N _ List.mem_cons_self).1
  refine en.2 (enall ?_) hn B F X T hk hd hu hp N hT hi hio hret
  intro _ _ _ Y' _ _ _ hlt'; k_cells Y'
  (try dsimp only)
  have hin0 : (hideAll s.heap [t]).get? inner = some io := hideAll_get _ hi (by simpa using hit)
  have hin : ∀ {h : Heap} {L' : Addr} {m : Str → Option Value}, Fr (hideAll s.heap [t]) L' h m → h.get? inner = some io := fun F => F.keep _ _ hin0
  k_extra "k_steps"
  rename_i oc dc fnd h1 l1 h2 F1 N1
  have htL : @LT.lt Nat _ t L' := hlt' (t, o) List.mem_cons_self
  have lf : @LT.lt Nat _ (L' + 1) fnd := l1 (L' + 1, oc) (by simp)
  have N0 : News (hideAll s.heap [t]) L' h2 [(t, o), (fnd, lst []), (L' + 1, oc)] := news_weak N1 (by simp [lst])
  clear N1 l1 N F B X T
  refine for_rule (exc := False) (by k_asm) rfl rfl (by rfl) (by rfl) ?_
  k_extra "k_steps"
  refine draw (by k_asm) (by k_asm) (by k_asm) N0 (by k_asm) rfl (by k_extra "ktr_room") (by k_extra "ktr_room") (fun p hp => ?_) hT (hin (by k_asm)) hio (by decide) fun v u' h' tk' o1 hv0 hv1 F' N' hT' hst => ?_
  · simp only [List.mem_cons, List.not_mem_nil, or_false] at hp
    rcases hp with rfl | rfl <;> exact Nat.ne_of_gt (by (try dsimp only); omega)
  k_extra "k_steps"
  have hvn : v.toNat ≤ 4 := by omega
  have hvv : v = ((v.toNat : Nat) : Int) := by omega
  refine ForGo.inv (σ := List Cmd × List Value × List (Addr × Obj) × Obj × Obj × Option Value × Option Value × Option Value)
    (fun i st => st.1.length = i ∧ Rel2 (CmdTup st.2.2.1) st.1 st.2.1 ∧ (∀ c ∈ st.1, okCmd n c) ∧ TapeO inner st.2.2.2.1 ∧ (∃ v₀, st.2.2.2.2.1.data = .cell v₀) ∧ ∀ p ∈ st.2.2.1, @LT.lt Nat _ fnd p.1)
    (fun st => [(Str.ofString "ids", st.2.2.2.2.2.1), (Str.ofString "side", st.2.2.2.2.2.2.1), (Str.ofString "name", st.2.2.2.2.2.2.2)])
    (fun st => (t, st.2.2.2.1) :: (fnd, lst st.2.1) :: (L' + 1, st.2.2.2.2.1) :: st.2.2.1) ([], [], [], o1, oc, none, none, none) (iter_range (n := v.toNat) rfl (by assumption) (by rw [hvv]; exact small1 (by omega)) (by rw [hvv]; exact size1 _)) (by k_asm) (by k_asm) (ovr_cons rfl (ovr_cons rfl (ovr_cons rfl fun _ => rfl))) ⟨rfl, trivial, (fun c hc => (by cases hc)), hT', ⟨_, dc⟩, fun p hp => (by cases hp)⟩ ?_ ?_ (fun x => x.elim)
  · intro i k v1; refine pr8 ?_
    intro cmds vs objs o2 oc2 n1 n2 n3 h tk hk hz0 hz1 hS J oJ Q' E' F' N' hne hnext hbrk hret' _
    obtain ⟨u1, rfl⟩ := hz0
    obtain ⟨hlen, hrel, hok, hT2, ⟨v₀, hcv⟩, hob⟩ := hz1
    dsimp only [ovr] at *
    rename_i z0 z1 z2 z3 z4 z5 z6 z7 z8 z9 z10 z11 z12 z13 z14 z15
    revert hn z0 hd hu hp hT hi hio hret hit z1 z2 z3 hlt' dc hin0 hin F1 htL lf N0 hv0 hv1 z4 z5 hT' hst z11 z12 z13 z14 hvn hvv hk hS N' hne hnext hbrk hret' z15 F' hlen hrel hok hT2 hob hcv; exact hP_a oc fnd h2 v h' o1 z6 z7 z8 z9 z10 i k cmds vs objs o2 oc2 n1 n2 n3 h tk J oJ Q' E' u1 v₀
  · refine pr8 ?_
    intro cmds vs objs o2 oc2 n1 n2 n3 o h' tk' hz0 hS F' N'
    obtain ⟨hlen, hrel, hok, hT2, ⟨v₀, hcv⟩, hob⟩ := hz0
    dsimp only [ovr] at *
    k_extra "k_steps"
    (try dsimp only)
    have htn : ∀ p ∈ (fnd, lst vs) :: objs, p.1 ≠ t := fun p hp => by
      rcases List.mem_cons.mp hp with rfl | hp
      · exact Nat.ne_of_gt (by (try dsimp only); omega)
      · have := hob p hp
        exact Nat.ne_of_gt (by (try dsimp only); omega)
    refine hret _ ((fnd, lst vs) :: objs) _ _ o2 (fun b x e hb => F'.keep _ _ (hideAll_get _ e (by simpa using hb))) (N' (t, o2) List.mem_cons_self).1 hT2 (fun p hp => ⟨(N' p ?_).1, hide_none (N' p ?_).2.2 (by simpa using htn p hp)⟩) ⟨fnd, vs, _, cmds, objs, rfl, rfl, hrel, ?_, hok⟩
    · simp only [List.mem_cons] at hp ⊢
      rcases hp with h | h <;> simp [h]
    · simp only [List.mem_cons] at hp ⊢
      rcases hp with h | h <;> simp [h]
    · rw [hlen, List.length_range]; exact hvn⟩
namespace skmain_a
noncomputable def c0 : (Obj) × (Addr) × (Heap) × (Int) × (Heap) × (Obj) × (Heap) × (Nat) × (Tok) × (Tok) × (Tok) × (Nat) × (Nat) × (List Cmd) × (List Value) × (List (Addr × Obj)) × (Obj) × (Obj) × (Option Value) × (Option Value) × (Option Value) × (Heap) × (Nat) × (Addr) × (Obj) × (Flow → Shared → Prop) × (Value → Shared → Prop) × (Tok) × (Option Value) × Unit := pick ⟨⟨default, default, default, default, default, default, default, default, default, default, default, default, default, default, default, default, default, default, default, default, default, default, default, default, default, default, default, default, default, ()⟩⟩ fun q => skmain_sb1.1 q.1 q.2.1 q.2.2.1 q.2.2.2.1 q.2.2.2.2.1 q.2.2.2.2.2.1 q.2.2.2.2.2.2.1 q.2.2.2.2.2.2.2.1 q.2.2.2.2.2.2.2.2.1 q.2.2.2.2.2.2.2.2.2.1 q.2.2.2.2.2.2.2.2.2.2.1 q.2.2.2.2.2.2.2.2.2.2.2.1 q.2.2.2.2.2.2.2.2.2.2.2.2.1 q.2.2.2.2.2.2.2.2.2.2.2.2.2.1 q.2.2.2.2.2.2.2.2.2.2.2.2.2.2.1 q.2.2.2.2.2.2.2.2.2.2.2.2.2.2.2.1 q.2.2.2.2.2.2.2.2.2.2.2.2.2.2.2.2.1 q.2.2.2.2.2.2.2.2.2.2.2.2.2.2.2.2.2.1 q.2.2.2.2.2.2.2.2.2.2.2.2.2.2.2.2.2.2.1 q.2.2.2.2.2.2.2.2.2.2.2.2.2.2.2.2.2.2.2.1 q.2.2.2.2.2.2.2.2.2.2.2.2.2.2.2.2.2.2.2.2.1 q.2.2.2.2.2.2.2.2.2.2.2.2.2.2.2.2.2.2.2.2.2.1 q.2.2.2.2.2.2.2.2.2.2.2.2.2.2.2.2.2.2.2.2.2.2.1 q.2.2.2.2.2.2.2.2.2.2.2.2.2.2.2.2.2.2.2.2.2.2.2.1 q.2.2.2.2.2.2.2.2.2.2.2.2.2.2.2.2.2.2.2.2.2.2.2.2.1 q.2.2.2.2.2.2.2.2.2.2.2.2.2.2.2.2.2.2.2.2.2.2.2.2.2.1 q.2.2.2.2.2.2.2.2.2.2.2.2.2.2.2.2.2.2.2.2.2.2.2.2.2.2.1 q.2.2.2.2.2.2.2.2.2.2.2.2.2.2.2.2.2.2.2.2.2.2.2.2.2.2.2.1 q.2.2.2.2.2.2.2.2.2.2.2.2.2.2.2.2.2.2.2.2.2.2.2.2.2.2.2.2.1
@[irreducible] noncomputable def oc : Obj := c0.1
@[irreducible] noncomputable def fnd : Addr := c0.2.1
@[irreducible] noncomputable def h2 : Heap := c0.2.2.1
@[irreducible] noncomputable def v : Int := c0.2.2.2.1
@[irreducible] noncomputable def h' : Heap := c0.2.2.2.2.1
@[irreducible] noncomputable def o1 : Obj := c0.2.2.2.2.2.1
@[irreducible] noncomputable def z6 : Heap := c0.2.2.2.2.2.2.1
@[irreducible] noncomputable def z7 : Nat := c0.2.2.2.2.2.2.2.1
@[irreducible] noncomputable def z8 : Tok := c0.2.2.2.2.2.2.2.2.1
@[irreducible] noncomputable def z9 : Tok := c0.2.2.2.2.2.2.2.2.2.1
@[irreducible] noncomputable def z10 : Tok := c0.2.2.2.2.2.2.2.2.2.2.1
@[irreducible] noncomputable def i : Nat := c0.2.2.2.2.2.2.2.2.2.2.2.1
@[irreducible] noncomputable def k : Nat := c0.2.2.2.2.2.2.2.2.2.2.2.2.1
@[irreducible] noncomputable def cmds : List Cmd := c0.2.2.2.2.2.2.2.2.2.2.2.2.2.1
@[irreducible] noncomputable def vs : List Value := c0.2.2.2.2.2.2.2.2.2.2.2.2.2.2.1
@[irreducible] noncomputable def objs : List (Addr × Obj) := c0.2.2.2.2.2.2.2.2.2.2.2.2.2.2.2.1
@[irreducible] noncomputable def o2 : Obj := c0.2.2.2.2.2.2.2.2.2.2.2.2.2.2.2.2.1
@[irreducible] noncomputable def oc2 : Obj := c0.2.2.2.2.2.2.2.2.2.2.2.2.2.2.2.2.2.1
@[irreducible] noncomputable def n1 : Option Value := c0.2.2.2.2.2.2.2.2.2.2.2.2.2.2.2.2.2.2.1
@[irreducible] noncomputable def n2 : Option Value := c0.2.2.2.2.2.2.2.2.2.2.2.2.2.2.2.2.2.2.2.1
@[irreducible] noncomputable def n3 : Option Value := c0.2.2.2.2.2.2.2.2.2.2.2.2.2.2.2.2.2.2.2.2.1
@[irreducible] noncomputable def h : Heap := c0.2.2.2.2.2.2.2.2.2.2.2.2.2.2.2.2.2.2.2.2.2.1
@[irreducible] noncomputable def tk : Nat := c0.2.2.2.2.2.2.2.2.2.2.2.2.2.2.2.2.2.2.2.2.2.2.1
@[irreducible] noncomputable def J : Addr := c0.2.2.2.2.2.2.2.2.2.2.2.2.2.2.2.2.2.2.2.2.2.2.2.1
@[irreducible] noncomputable def oJ : Obj := c0.2.2.2.2.2.2.2.2.2.2.2.2.2.2.2.2.2.2.2.2.2.2.2.2.1
@[irreducible] noncomputable def Q' : Flow → Shared → Prop := c0.2.2.2.2.2.2.2.2.2.2.2.2.2.2.2.2.2.2.2.2.2.2.2.2.2.1
@[irreducible] noncomputable def E' : Value → Shared → Prop := c0.2.2.2.2.2.2.2.2.2.2.2.2.2.2.2.2.2.2.2.2.2.2.2.2.2.2.1
@[irreducible] noncomputable def u1 : Tok := c0.2.2.2.2.2.2.2.2.2.2.2.2.2.2.2.2.2.2.2.2.2.2.2.2.2.2.2.1
@[irreducible] noncomputable def v₀ : Option Value := c0.2.2.2.2.2.2.2.2.2.2.2.2.2.2.2.2.2.2.2.2.2.2.2.2.2.2.2.2.1
theorem main : skmain_sb1.1 oc fnd h2 v h' o1 z6 z7 z8 z9 z10 i k cmds vs objs o2 oc2 n1 n2 n3 h tk J oJ Q' E' u1 v₀ := by
  intro hn z0 hd hu hp hT hi hio hret hit z1 z2 z3 hlt' dc hin0 hin F1 htL lf N0 hv0 hv1 z4 z5 hT' hst z11 z12 z13 z14 hvn hvv hk hS N' hne hnext hbrk hret' z15 F' hlen hrel hok hT2 hob hcv
  k_extra "k_steps"
  rename_i idl hx1 Fx1 Nx1 l9 hx2 F9 N9
  obtain ⟨lj, lt, lfi, lci, lob⟩ := l9
  have qJt : t ≠ J := hne (t, o2) List.mem_cons_self
  have qJf : fnd ≠ J := hne (fnd, lst vs) (by simp)
  have qJc : L' + 1 ≠ J := hne (L' + 1, oc2) (by simp)
  have qJo : ∀ p ∈ objs, p.1 ≠ J := fun p hp => hne p (by simp [hp])
  have hr0 : ∀ (x y z : Obj), ∀ p ∈ (idl, x) :: (J, oJ) :: (fnd, y) :: (L' + 1, z) :: objs, p.1 ≠ t := fun x y z p hp => by
    simp only [List.mem_cons] at hp
    rcases hp with rfl | rfl | rfl | rfl | hp
    · exact Nat.ne_of_gt lt
    · exact Ne.symm qJt
    · exact Nat.ne_of_gt (by (try dsimp only); omega)
    · exact Nat.ne_of_gt (by (try dsimp only); omega)
    · have := hob p hp
      exact Nat.ne_of_gt (by (try dsimp only); omega)
  have N0 : News (hideAll s.heap [t]) L' hx2 ((t, o2) :: (idl, lst []) :: (J, oJ) :: (fnd, lst vs) :: (L' + 1, oc2) :: objs) := news_weak N9 fun p hp => by
    simp only [List.mem_cons] at hp ⊢
    rcases hp with h | h | h | h | h | h <;> simp [h, lst]
  clear N9 Nx1 Fx1
  refine for_rule (exc := False) (by k_asm) rfl rfl (by rfl) (by rfl) ?_
  k_extra "k_steps"
  refine ForGo.inv (σ := List (List UInt8) × List Value × Obj × Obj)
    (fun i st => st.1.length = i ∧ Rel2 BytV st.1 st.2.1 ∧ (∀ x ∈ st.1, x.length = n) ∧ TapeO inner st.2.2.1 ∧ ∃ v₀, st.2.2.2.data = .cell v₀)
    (fun _ => []) (fun st => (t, st.2.2.1) :: (idl, lst st.2.1) :: (J, oJ) :: (fnd, lst vs) :: (L' + 1, st.2.2.2) :: objs) ([], [], o2, oc2) (iter_range (n := 2) rfl (by assumption) (by decide) (by decide)) (by k_asm) (by k_asm) (fun _ => rfl) ⟨rfl, trivial, (fun c hc => (by cases hc)), hT2, _, hcv⟩ ?_ ?_ (fun x => x.elim)
  · intro i2 k2 v2; refine pr4 ?_
    intro ids ys o3 oc3 h3 tk3 hk2 hz0 hz1 hS3 J2 oJ2 Q2 E2 F' N' hne2 hnext2 hbrk2 hret2 _
    obtain ⟨u2, rfl⟩ := hz0
    obtain ⟨hlen2, hrel2, hok2, hT3, ⟨v3, hcv3⟩⟩ := hz1
    dsimp only [ovr] at *
    have qt2 : t ≠ J2 := hne2 (t, o3) List.mem_cons_self
    have qi2 : idl ≠ J2 := hne2 (idl, lst ys) (by simp)
    have qc2 : L' + 1 ≠ J2 := hne2 (L' + 1, oc3) (by simp)
    obtain ⟨Na, hra⟩ := tape_front' N' qt2 (hr0 _ _ _)
    clear N'
    k_extra "k_steps"
    rename_i Dn hx5 F5 N5 l5
    obtain ⟨Nb, hrb⟩ := tape_front N5 l5.1 hra
    refine draw (by k_asm) (by k_asm) (by k_asm) Nb (by k_asm) rfl (by k_extra "ktr_room") (by k_extra "ktr_room") hrb hT3 (hin (by k_asm)) hio (by decide) fun w1 u' h' tk' o4 hw0 hw1 F' N' hT4 hst => ?_
    k_extra "k_steps"
    refine item_any (fun v => ∃ (c : Int) (u : Tok), v = .int c u) (by k_asm) (by k_mem) hw0 (by simpa using hw1) (by show 4 ≤ _; omega) (fun v hv => ?_) ?_
    · simp only [List.mem_cons, List.not_mem_nil, or_false] at hv
      rcases hv with rfl | rfl | rfl | rfl <;> exact ⟨_, _, rfl⟩
    rintro _ ⟨c1, uc1, rfl⟩
    k_extra "k_steps"
    refine draw (by k_asm) (by k_asm) (by k_asm) N' (by k_asm) rfl (by k_extra "ktr_room") (by k_extra "ktr_room") hrb hT4 (hin (by k_asm)) hio (by decide) fun w2 u' h' tk' o5 hw20 hw21 F' N' hT5 hst => ?_
    k_extra "k_steps"
    have hoc : ∀ p ∈ objs, p.1 ≠ L' + 1 := fun p hp => by
      have := hob p hp
      exact Nat.ne_of_gt (by (try dsimp only); omega)
    have lD := l5.2.2.2.2.2.1
    refine storeX_C (by k_asm) N' (by rfl) (.tail (Nat.ne_of_lt (by (try dsimp only); omega)) (.tail (Nat.ne_of_gt lD) (.tail (Ne.symm qc2) (.tail (Nat.ne_of_gt lci) (.tail (Ne.symm qJc) (.tail (Nat.ne_of_gt (by (try dsimp only); omega)) (.head hoc))))))) hcv3 (fun h' oc4 F' N' hcv4 => ?_) (by rfl) (by rfl)
    (try dsimp only at N')
    k_extra "k_steps"
    k_extra "ktr_step"
    k_extra "k_steps"
    refine' ⟨Nat, List.range n, _, [], ?nw1, fun i ys nw => nw = ?nw1 ∧ ∃ l : List UInt8, l.length = i ∧ Rel2 OctV l ys, iter_range (n := n) rfl (by assumption) (small1 (by omega)) (size1 n), ?fF1, ?nN1, ?sz1, ⟨rfl, [], rfl, trivial⟩, ?turn1, ?done1, fun x => x.elim⟩
    case fF1 => k_asm
    case nN1 => k_asm
    case sz1 => rw [sizeLine_eq, List.length_range]; omega
    case turn1 =>
      intro i k v ys news₁ h tk C oC m₂ hk hz0 hz1 hS hC hx hyl I oI D Q' E' F' N' off ne hret _
      obtain ⟨u, rfl⟩ := hz0
      obtain ⟨rfl, l, hl, hr⟩ := hz1
      obtain ⟨hin3, rfl⟩ : i < n ∧ k = i := by
        rw [List.getElem?_eq_some_iff] at hk
        obtain ⟨h1, h2⟩ := hk
        rw [List.length_range] at h1
        rw [List.getElem_range] at h2
        exact ⟨h1, h2.symm⟩
      have hk4 : ((0 : Int) + ((k : Nat) : Int) = 0) ∨ ((0 : Int) + ((k : Nat) : Int) = 1) ∨ ((0 : Int) + ((k : Nat) : Int) = 2) ∨ ((0 : Int) + ((k : Nat) : Int) = 3) := by omega
      rcases hk4 with hk4 | hk4 | hk4 | hk4 <;> rw [hk4] at hx <;> k_extra "k_steps" <;> exact hret _ _ _ _ F' N' off hS ⟨rfl, l ++ [_], by rw [List.length_append, hl]; rfl, hr.snoc (oct_mod _ _)⟩
    case done1 =>
      rintro ys11 nw ⟨rfl, l, hl, hr11⟩ hyl11
      rw [List.length_range] at hl
      intro D8 h tk F' N' o8
      k_extra "k_steps"
      refine bytes_of_list (by k_asm) (by k_asm) rfl (News.isList (by k_asm) (by k_mem)) hr11 (by omega) fun h' t' k' F' N' => ?_
      k_extra "k_steps"
      have hyl : ys.length ≤ 2 := by
        have h5 := hrel2.length
        have h6 := List.getElem?_eq_some_iff.mp hk2
        obtain ⟨h6, _⟩ := h6
        rw [List.length_range] at h6
        omega
      have N3 := Mine.News.pick25 N'
      refine append_L [(J2, oJ2), (t, o5)] ((J, oJ) :: (fnd, lst vs) :: (L' + 1, oc4) :: objs) (by k_asm) (by exact N3) (fun p hp => ?_) (by omega) fun h' F' N' hs => ?_
      · simp only [List.cons_append, List.nil_append, List.mem_cons] at hp
        rcases hp with rfl | rfl | rfl | rfl | rfl | hp
        · exact Ne.symm qi2
        · exact Nat.ne_of_lt lt
        · exact Nat.ne_of_lt lj
        · exact Nat.ne_of_lt lfi
        · exact Nat.ne_of_lt lci
        · exact Nat.ne_of_lt (PySem.W.ktn_ltOf lob p hp)
      k_extra "k_steps"
      refine hnext2 (ids ++ [l], ys ++ [_], o5, oc4) _ _ _ _ (.inl rfl) F' (fun z hz => ?_) N' (fun p hp => ?_) stand_nil ⟨?_, ?_, ?_, hT5, _, hcv4⟩
      · (try dsimp only [upd]); simp only [hz, if_false]
      · simp only [List.mem_cons] at hp
        rcases hp with rfl | rfl | rfl | rfl | rfl | hp
        · exact qt2
        · exact qi2
        · exact hne2 (J, oJ) (by simp)
        · exact hne2 (fnd, lst vs) (by simp)
        · exact qc2
        · exact hne2 p (by simp [hp])
      · rw [List.length_append, hlen2]; rfl
      · exact hrel2.snoc ⟨_, rfl⟩
      · intro x hx
        rcases List.mem_append.mp hx with hx | hx
        · exact hok2 x hx
        · rw [List.mem_singleton.mp hx]; exact hl
  · refine pr4 ?_
    intro ids ys o3 oc3 o h' tk' hz0 hS F' N'
    obtain ⟨hlen2, hrel2, hok2, hT3, ⟨v3, hcv3⟩⟩ := hz0
    dsimp only [ovr] at *
    k_extra "k_steps"
    rename_i Dn hx5 F5 N5 l5
    obtain ⟨Nb, hrb⟩ := tape_front N5 l5.1 (hr0 _ _ _)
    refine draw (by k_asm) (by k_asm) (by k_asm) Nb (by k_asm) rfl (by k_extra "ktr_room") (by k_extra "ktr_room") hrb hT3 (hin (by k_asm)) hio (by decide) fun w1 u' h' tk' o4 hw0 hw1 F' N' hT4 hst => ?_
    k_extra "k_steps"
    refine item_any (fun v => ∃ nm ∈ lawNames, TxtV (tx nm) v) (by k_asm) (by k_mem) hw0 (by simpa using hw1) (by show 5 ≤ _; omega) (fun v hv => ?_) ?_
    · simp only [List.mem_cons, List.not_mem_nil, or_false] at hv
      rcases hv with rfl | rfl | rfl | rfl | rfl
      · exact ⟨lawNames[0], by simp [lawNames], _, rfl⟩
      · exact ⟨lawNames[1], by simp [lawNames], _, rfl⟩
      · exact ⟨lawNames[2], by simp [lawNames], _, rfl⟩
      · exact ⟨lawNames[3], by simp [lawNames], _, rfl⟩
      · exact ⟨lawNames[4], by simp [lawNames], _, rfl⟩
    rintro _ ⟨nm, hnm, tn, rfl⟩
    obtain ⟨i0, i1, y0, y1, rfl, rfl, ⟨ty0, rfl⟩, ⟨ty1, rfl⟩, hi0, hi1⟩ : ∃ i0 i1 y0 y1, ids = [i0, i1] ∧ ys = [y0, y1] ∧ BytV i0 y0 ∧ BytV i1 y1 ∧ i0.length = n ∧ i1.length = n := by
      match ids, ys, hlen2, hrel2, hok2 with
      | [i0, i1], [y0, y1], _, hrel2, hok2 => exact ⟨i0, i1, y0, y1, rfl, rfl, hrel2.1, hrel2.2.1, hok2 i0 (by simp), hok2 i1 (by simp)⟩
      | [i0, i1], [], _, h, _ => exact h.elim
      | [i0, i1], [_], _, h, _ => exact h.2.elim
      | [i0, i1], _ :: _ :: _ :: _, _, h, _ => exact h.2.2.elim
      | [], _, h, _, _ => cases h
      | [_], _, h, _, _ => cases h
      | _ :: _ :: _ :: _, _, h, _, _ => simp at h
    k_extra "k_steps"
    rename_i F6 N6
    refine item_of (T := "list") (k := 0) (v := .bytes i0.toArray ty0) (o := lst [_, _]) (by exact (N6 (idl, lst [_, _]) (by k_mem)).1) (.inl rfl) rfl rfl (by rfl) (by rfl) (by show 2 ≤ _; omega) ?_
    k_extra "k_steps"
    refine item_of (T := "list") (k := 1) (v := .bytes i1.toArray ty1) (o := lst [_, _]) (by exact (N6 (idl, lst [_, _]) (by k_mem)).1) (.inl rfl) rfl rfl (by rfl) (by rfl) (by show 2 ≤ _; omega) ?_
    k_extra "k_steps"
    rename_i X7 hx7 F7 N7 l7
    have N8 := Mine.News.pick26 N7
    have lX : @LT.lt Nat _ fnd X7 := l7.2.2.2.2.1
    have hvl : vs.length ≤ 4 := by
      have h5 := hrel.length
      have h6 := List.getElem?_eq_some_iff.mp hk
      obtain ⟨h6, _⟩ := h6
      rw [List.length_range] at h6
      omega
    refine append_L [(J, oJ), (t, o4)] ((L' + 1, oc3) :: (X7, _) :: objs) (by k_asm) (by exact N8) (fun p hp => ?_) (by omega) fun h' F' N' hs => ?_
    · simp only [List.cons_append, List.nil_append, List.mem_cons] at hp
      rcases hp with rfl | rfl | rfl | rfl | hp
      · exact Ne.symm qJf
      · exact Nat.ne_of_lt (by (try dsimp only); omega)
      · exact Nat.ne_of_lt (by (try dsimp only); omega)
      · exact Nat.ne_of_gt lX
      · exact Nat.ne_of_gt (hob p hp)
    k_extra "k_steps"
    refine hnext (cmds ++ [(i0, i1, nm)], vs ++ [_], (X7, _) :: objs, o4, oc3, some (.ref idl), o, some (.str (S (tx nm)) tn)) _ _ _ _ (.inl rfl) F' (fun z hz => ?_) N' (fun p hp => ?_) stand_nil ⟨?_, ?_, ?_, hT4, ⟨_, hcv3⟩, ?_⟩
    · dsimp only [ovr, upd]
      by_cases h1 : z = Str.ofString "name"
      · subst h1; rfl
      · by_cases h2 : z = Str.ofString "side"
        · subst h2; rfl
        · by_cases h3 : z = Str.ofString "ids"
          · subst h3; rfl
          · simp only [h1, h2, h3, hz, if_false]
    · simp only [List.mem_cons] at hp
      rcases hp with rfl | rfl | rfl | rfl | hp
      · exact qJt
      · exact qJf
      · exact qJc
      · exact Nat.ne_of_gt (by have := l7.2.2.2.1; exact this)
      · exact qJo p hp
    · show (cmds ++ [_]).length = _
      rw [List.length_append, hlen]; rfl
    · exact (hrel.mono fun _ _ => CmdTup.mono fun p hp => List.mem_cons_of_mem _ hp).snoc ⟨X7, ty0, ty1, tn, 0, rfl, List.mem_cons_self⟩
    · intro c hc
      rcases List.mem_append.mp hc with hc | hc
      · exact hok c hc
      · rw [List.mem_singleton.mp hc]; exact ⟨hi0, hi1, hnm⟩
    · intro p hp
      rcases List.mem_cons.mp hp with rfl | hp
      · exact lX
      · exact hob p hp
theorem all : ∀ a0 a1 a2 a3 a4 a5 a6 a7 a8 a9 a10 a11 a12 a13 a14 a15 a16 a17 a18 a19 a20 a21 a22 a23 a24 a25 a26 a27 a28, skmain_sb1.1 a0 a1 a2 a3 a4 a5 a6 a7 a8 a9 a10 a11 a12 a13 a14 a15 a16 a17 a18 a19 a20 a21 a22 a23 a24 a25 a26 a27 a28 := by
  have q1 : (fun q : (Obj) × (Addr) × (Heap) × (Int) × (Heap) × (Obj) × (Heap) × (Nat) × (Tok) × (Tok) × (Tok) × (Nat) × (Nat) × (List Cmd) × (List Value) × (List (Addr × Obj)) × (Obj) × (Obj) × (Option Value) × (Option Value) × (Option Value) × (Heap) × (Nat) × (Addr) × (Obj) × (Flow → Shared → Prop) × (Value → Shared → Prop) × (Tok) × (Option Value) × Unit => skmain_sb1.1 q.1 q.2.1 q.2.2.1 q.2.2.2.1 q.2.2.2.2.1 q.2.2.2.2.2.1 q.2.2.2.2.2.2.1 q.2.2.2.2.2.2.2.1 q.2.2.2.2.2.2.2.2.1 q.2.2.2.2.2.2.2.2.2.1 q.2.2.2.2.2.2.2.2.2.2.1 q.2.2.2.2.2.2.2.2.2.2.2.1 q.2.2.2.2.2.2.2.2.2.2.2.2.1 q.2.2.2.2.2.2.2.2.2.2.2.2.2.1 q.2.2.2.2.2.2.2.2.2.2.2.2.2.2.1 q.2.2.2.2.2.2.2.2.2.2.2.2.2.2.2.1 q.2.2.2.2.2.2.2.2.2.2.2.2.2.2.2.2.1 q.2.2.2.2.2.2.2.2.2.2.2.2.2.2.2.2.2.1 q.2.2.2.2.2.2.2.2.2.2.2.2.2.2.2.2.2.2.1 q.2.2.2.2.2.2.2.2.2.2.2.2.2.2.2.2.2.2.2.1 q.2.2.2.2.2.2.2.2.2.2.2.2.2.2.2.2.2.2.2.2.1 q.2.2.2.2.2.2.2.2.2.2.2.2.2.2.2.2.2.2.2.2.2.1 q.2.2.2.2.2.2.2.2.2.2.2.2.2.2.2.2.2.2.2.2.2.2.1 q.2.2.2.2.2.2.2.2.2.2.2.2.2.2.2.2.2.2.2.2.2.2.2.1 q.2.2.2.2.2.2.2.2.2.2.2.2.2.2.2.2.2.2.2.2.2.2.2.2.1 q.2.2.2.2.2.2.2.2.2.2.2.2.2.2.2.2.2.2.2.2.2.2.2.2.2.1 q.2.2.2.2.2.2.2.2.2.2.2.2.2.2.2.2.2.2.2.2.2.2.2.2.2.2.1 q.2.2.2.2.2.2.2.2.2.2.2.2.2.2.2.2.2.2.2.2.2.2.2.2.2.2.2.1 q.2.2.2.2.2.2.2.2.2.2.2.2.2.2.2.2.2.2.2.2.2.2.2.2.2.2.2.2.1) (pick ⟨⟨default, default, default, default, default, default, default, default, default, default, default, default, default, default, default, default, default, default, default, default, default, default, default, default, default, default, default, default, default, ()⟩⟩ fun q => skmain_sb1.1 q.1 q.2.1 q.2.2.1 q.2.2.2.1 q.2.2.2.2.1 q.2.2.2.2.2.1 q.2.2.2.2.2.2.1 q.2.2.2.2.2.2.2.1 q.2.2.2.2.2.2.2.2.1 q.2.2.2.2.2.2.2.2.2.1 q.2.2.2.2.2.2.2.2.2.2.1 q.2.2.2.2.2.2.2.2.2.2.2.1 q.2.2.2.2.2.2.2.2.2.2.2.2.1 q.2.2.2.2.2.2.2.2.2.2.2.2.2.1 q.2.2.2.2.2.2.2.2.2.2.2.2.2.2.1 q.2.2.2.2.2.2.2.2.2.2.2.2.2.2.2.1 q.2.2.2.2.2.2.2.2.2.2.2.2.2.2.2.2.1 q.2.2.2.2.2.2.2.2.2.2.2.2.2.2.2.2.2.1 q.2.2.2.2.2.2.2.2.2.2.2.2.2.2.2.2.2.2.1 q.2.2.2.2.2.2.2.2.2.2.2.2.2.2.2.2.2.2.2.1 q.2.2.2.2.2.2.2.2.2.2.2.2.2.2.2.2.2.2.2.2.1 q.2.2.2.2.2.2.2.2.2.2.2.2.2.2.2.2.2.2.2.2.2.1 q.2.2.2.2.2.2.2.2.2.2.2.2.2.2.2.2.2.2.2.2.2.2.1 q.2.2.2.2.2.2.2.2.2.2.2.2.2.2.2.2.2.2.2.2.2.2.2.1 q.2.2.2.2.2.2.2.2.2.2.2.2.2.2.2.2.2.2.2.2.2.2.2.2.1 q.2.2.2.2.2.2.2.2.2.2.2.2.2.2.2.2.2.2.2.2.2.2.2.2.2.1 q.2.2.2.2.2.2.2.2.2.2.2.2.2.2.2.2.2.2.2.2.2.2.2.2.2.2.1 q.2.2.2.2.2.2.2.2.2.2.2.2.2.2.2.2.2.2.2.2.2.2.2.2.2.2.2.1 q.2.2.2.2.2.2.2.2.2.2.2.2.2.2.2.2.2.2.2.2.2.2.2.2.2.2.2.2.1) := by with_unfolding_all exact main
  exact fun a0 a1 a2 a3 a4 a5 a6 a7 a8 a9 a10 a11 a12 a13 a14 a15 a16 a17 a18 a19 a20 a21 a22 a23 a24 a25 a26 a27 a28 => pick_spec (P := fun q : (Obj) × (Addr) × (Heap) × (Int) × (Heap) × (Obj) × (Heap) × (Nat) × (Tok) × (Tok) × (Tok) × (Nat) × (Nat) × (List Cmd) × (List Value) × (List (Addr × Obj)) × (Obj) × (Obj) × (Option Value) × (Option Value) × (Option Value) × (Heap) × (Nat) × (Addr) × (Obj) × (Flow → Shared → Prop) × (Value → Shared → Prop) × (Tok) × (Option Value) × Unit => skmain_sb1.1 q.1 q.2.1 q.2.2.1 q.2.2.2.1 q.2.2.2.2.1 q.2.2.2.2.2.1 q.2.2.2.2.2.2.1 q.2.2.2.2.2.2.2.1 q.2.2.2.2.2.2.2.2.1 q.2.2.2.2.2.2.2.2.2.1 q.2.2.2.2.2.2.2.2.2.2.1 q.2.2.2.2.2.2.2.2.2.2.2.1 q.2.2.2.2.2.2.2.2.2.2.2.2.1 q.2.2.2.2.2.2.2.2.2.2.2.2.2.1 q.2.2.2.2.2.2.2.2.2.2.2.2.2.2.1 q.2.2.2.2.2.2.2.2.2.2.2.2.2.2.2.1 q.2.2.2.2.2.2.2.2.2.2.2.2.2.2.2.2.1 q.2.2.2.2.2.2.2.2.2.2.2.2.2.2.2.2.2.1 q.2.2.2.2.2.2.2.2.2.2.2.2.2.2.2.2.2.2.1 q.2.2.2.2.2.2.2.2.2.2.2.2.2.2.2.2.2.2.2.1 q.2.2.2.2.2.2.2.2.2.2.2.2.2.2.2.2.2.2.2.2.1 q.2.2.2.2.2.2.2.2.2.2.2.2.2.2.2.2.2.2.2.2.2.1 q.2.2.2.2.2.2.2.2.2.2.2.2.2.2.2.2.2.2.2.2.2.2.1 q.2.2.2.2.2.2.2.2.2.2.2.2.2.2.2.2.2.2.2.2.2.2.2.1 q.2.2.2.2.2.2.2.2.2.2.2.2.2.2.2.2.2.2.2.2.2.2.2.2.1 q.2.2.2.2.2.2.2.2.2.2.2.2.2.2.2.2.2.2.2.2.2.2.2.2.2.1 q.2.2.2.2.2.2.2.2.2.2.2.2.2.2.2.2.2.2.2.2.2.2.2.2.2.2.1 q.2.2.2.2.2.2.2.2.2.2.2.2.2.2.2.2.2.2.2.2.2.2.2.2.2.2.2.1 q.2.2.2.2.2.2.2.2.2.2.2.2.2.2.2.2.2.2.2.2.2.2.2.2.2.2.2.2.1) (ne := ⟨⟨default, default, default, default, default, default, default, default, default, default, default, default, default, default, default, default, default, default, default, default, default, default, default, default, default, default, default, default, default, ()⟩⟩) q1 ⟨a0, a1, a2, a3, a4, a5, a6, a7, a8, a9, a10, a11, a12, a13, a14, a15, a16, a17, a18, a19, a20, a21, a22, a23, a24, a25, a26, a27, a28, ()⟩
end skmain_a
theorem skmain : skP w mean mg mb dp un gd cn cs a ccd cl outer A₀ base h₀ L m s Q E o io t inner u n := skmain_sb1.2 skmain_a.all
theorem skall : skP skc.1.w skc.1.mean skc.1.mg skc.1.mb skc.1.dp skc.1.un skc.1.gd skc.1.cn skc.1.cs skc.1.a skc.1.ccd skc.1.cl skc.1.outer skc.1.A₀ skc.1.base skc.1.h₀ skc.1.L skc.1.m skc.1.s skc.1.Q skc.1.E skc.1.o skc.1.io skc.2.1 skc.2.2.1 skc.2.2.2.1 skc.2.2.2.2.1 := by
  with_unfolding_all exact skmain
end law_commands_specK
theorem law_commands_spec {w : World} {mean : ExcName → Option Value} {mg mb : Str → Option Value} (t inner : Addr) (u : Tok) (n : Nat) (hn : n ≤ 4) : TSpec w mean mg mb 3 245 [.ref t, .int (n : Int) u] t inner (fun _ => True)
    (fun r tl => ∃ l vs nv cmds objs, r = .ref l ∧ tl = (l, listOf vs.toArray nv) :: objs ∧ Rel2 (CmdTup objs) cmds vs ∧ cmds.length ≤ 4 ∧ ∀ c ∈ cmds, okCmd n c) := by
  intro dp un gd cn cs a ccd cl outer A₀ base h₀ L m s Q E o io
  exact pick_spec (P := fun p : Cx × (Addr) × (Addr) × (Tok) × (Nat) × Unit => law_commands_specK.skP p.1.w p.1.mean p.1.mg p.1.mb p.1.dp p.1.un p.1.gd p.1.cn p.1.cs p.1.a p.1.ccd p.1.cl p.1.outer p.1.A₀ p.1.base p.1.h₀ p.1.L p.1.m p.1.s p.1.Q p.1.E p.1.o p.1.io p.2.1 p.2.2.1 p.2.2.2.1 p.2.2.2.2.1) law_commands_specK.skall (⟨w, mean, mg, mb, dp, un, gd, cn, cs, a, ccd, cl, outer, A₀, base, h₀, L, m, s, Q, E, o, io⟩, t, inner, u, n, ()) hn
end
section
variable {w : World} {mean : ExcName → Option Value} {mg mb : Str → Option Value}
end
end
section
set_option maxHeartbeats 4000000
theorem hv_hx (k : Nat) (h : k < 16) : hv (hx k).toNat = k := by
  have : ∀ k < 16, hv (hx k).toNat = k := by decide
  exact this k h
theorem plain_hx (k : Nat) (h : k < 16) : plainC (hx k).toNat = true := by
  have : ∀ k < 16, plainC (hx k).toNat = true := by decide
  exact this k h
theorem hexL_cons (c : UInt8) (b : List UInt8) : hexL (c :: b) = hx (c.toNat / 16) :: hx (c.toNat % 16) :: hexL b := by simp [hexL]
theorem hexL_plain : ∀ (b : List UInt8), (hexL b).all (fun c => plainC c.toNat) = true
  | [] => rfl
  | c :: b => by
    have := c.toNat_lt
    rw [hexL_cons, List.all_cons, List.all_cons, hexL_plain b, plain_hx _ (by omega), plain_hx _ (by omega)]; rfl
theorem unhex_hex : ∀ (b : List UInt8), unhexL (hexL b) = b
  | [] => rfl
  | c :: b => by
    have := c.toNat_lt
    rw [hexL_cons, unhexL, unhex_hex b, hv_hx _ (by omega), hv_hx _ (by omega)]
    have e : 16 * (c.toNat / 16) + c.toNat % 16 = c.toNat := by omega
    rw [e]; simp
theorem idOk_hex (b : List UInt8) (n : Nat) (h : b.length = n) : idOk (hexL b) n = true := by
  rw [idOk, hexL_plain, Bool.and_true, hexL_length, h]; simp
theorem crow_cut (c : Cmd) (n : Nat) (h1 : c.1.length = n) (h2 : c.2.1.length = n) : (crow c).take (2 * n) = hexL c.1 ∧ ((crow c).drop (2 * n)).take 1 = [32] ∧ ((crow c).drop (2 * n + 1)).take (2 * n) = hexL c.2.1 ∧ ((crow c).drop (4 * n + 1)).take 1 = [32] ∧ (crow c).drop (4 * n + 2) = c.2.2 := by
  have l1 : (hexL c.1).length = 2 * n := by rw [hexL_length, h1]
  have l2 : (hexL c.2.1).length = 2 * n := by rw [hexL_length, h2]
  have e : crow c = hexL c.1 ++ (32 :: (hexL c.2.1 ++ (32 :: c.2.2))) := by simp [crow]
  have d1 : (crow c).drop (2 * n) = 32 :: (hexL c.2.1 ++ (32 :: c.2.2)) := by rw [e, List.drop_left' l1]
  have d2 : (crow c).drop (2 * n + 1) = hexL c.2.1 ++ (32 :: c.2.2) := by rw [← List.drop_drop, d1]; rfl
  have d3 : (crow c).drop (4 * n + 1) = 32 :: c.2.2 := by
    rw [show 4 * n + 1 = (2 * n + 1) + 2 * n by omega, ← List.drop_drop, d2, List.drop_left' l2]
  have d4 : (crow c).drop (4 * n + 2) = c.2.2 := by rw [show 4 * n + 2 = (4 * n + 1) + 1 by omega, ← List.drop_drop, d3]; rfl
  refine ⟨by rw [e, List.take_left' l1], by rw [d1]; rfl, by rw [d2, List.take_left' l2], by rw [d3]; rfl, d4⟩
theorem lawNames_ne {nm : List UInt8} (h : nm ∈ lawNames) : nm ≠ [] := by
  rintro rfl; revert h; decide
theorem lawNames_le {nm : List UInt8} (h : nm ∈ lawNames) : nm.length ≤ 17 := by
  have : ∀ x ∈ lawNames, x.length ≤ 17 := by decide
  exact this _ h
theorem rd_crow {c : Cmd} {n : Nat} (h : okCmd n c) : rd (crow c) n = some c := by
  obtain ⟨h1, h2, h3⟩ := h
  obtain ⟨e1, e2, e3, e4, e5⟩ := crow_cut c n h1 h2
  rw [rd, if_neg (by rw [e2, e4, e5]; rintro (h | h | h); exact h rfl; exact h rfl; exact lawNames_ne h3 h), e1, e3, if_pos ⟨idOk_hex _ _ h1, idOk_hex _ _ h2⟩, e5, unhex_hex, unhex_hex]
theorem crow_le {c : Cmd} {n : Nat} (h : okCmd n c) (hn : n ≤ 4) : (crow c).length ≤ 100 ∧ 1 ≤ (crow c).length := by
  obtain ⟨h1, h2, h3⟩ := h
  have := lawNames_le h3
  simp only [crow, List.length_append, List.length_cons, List.length_nil, hexL_length]
  omega
end
section
set_option maxHeartbeats 4000000
section
variable {w : World} {mean : ExcName → Option Value} {mg mb : Str → Option Value}
/-- a command as a tuple that stands in h -/
noncomputable def CmdH (h : Heap) (c : Cmd) (v : Value) : Prop := ∃ x t1 t2 t3 k, v = .ref x ∧ h.get? x = some (cmdT t1 t2 t3 k c)
theorem CmdH.mono {h h' : Heap} (k : ∀ b o, h.get? b = some o → (∀ es n, o.data ≠ .dict es n) → o.cls = .type "tuple" → h'.get? b = some o) {c : Cmd} {v : Value} : CmdH h c v → CmdH h' c v := by
  rintro ⟨x, t1, t2, t3, n, rfl, e⟩
  exact ⟨x, t1, t2, t3, n, rfl, k _ _ e (fun _ _ z => by cases z) rfl⟩
theorem tape_not_tuple {t inner : Addr} {o o2 : Obj} {h : Heap} (hT : TapeO inner o) (ht : h.get? t = some o) {x : Addr} (hx : h.get? x = some o2) (hc : o2.cls = .type "tuple") : x ≠ t := by
  rintro rfl
  rw [ht] at hx
  cases hx
  obtain ⟨p, u, nn, hp0, hoc, hod⟩ := hT
  rw [hoc] at hc
  exact absurd hc (by decide)
theorem same_cmd_items {s : Shared} {k : Nat} {t1 t2 t3 u1 u2 u3 : Tok} {c : Cmd} : ∀ j (h1 : j < (#[Value.bytes c.1.toArray t1, .bytes c.2.1.toArray t2, .str (S (tx c.2.2)) t3] : Array Value).size) (h2 : j < (#[Value.bytes c.1.toArray u1, .bytes c.2.1.toArray u2, .str (S (tx c.2.2)) u3] : Array Value).size),
    Same s k (#[Value.bytes c.1.toArray t1, .bytes c.2.1.toArray t2, .str (S (tx c.2.2)) t3] : Array Value)[j] (#[Value.bytes c.1.toArray u1, .bytes c.2.1.toArray u2, .str (S (tx c.2.2)) u3] : Array Value)[j]
  | 0, _, _ => same_bytes
  | 1, _, _ => same_bytes
  | 2, _, _ => same_str
  | j + 3, h1, _ => absurd h1 (by simp)
theorem ne_cmd {A : Around} {s : Shared} {E Q : Value → Shared → Prop} {a b : Addr} {t1 t2 t3 u1 u2 u3 : Tok} {k k' : Nat} {c : Cmd} (ha : s.heap.get? a = some (cmdT t1 t2 t3 k c)) (hb : s.heap.get? b = some (cmdT u1 u2 u3 k' c)) (hu : A.units + 1 < cLine) (h : Q (.bool false) s) :
    wpAny (model PR w) A (compareOp .NotEq (.ref a) (.ref b)) Q E s :=
  ne_tup (k := 0) ⟨_, ha, rfl, k, rfl⟩ ⟨_, hb, rfl, k', rfl⟩ rfl same_cmd_items (by omega) h
theorem same_cmd {s : Shared} {j : Nat} {a b : Addr} {t1 t2 t3 u1 u2 u3 : Tok} {k k' : Nat} {c : Cmd} (ha : s.heap.get? a = some (cmdT t1 t2 t3 k c)) (hb : s.heap.get? b = some (cmdT u1 u2 u3 k' c)) : Same s (j + 1) (.ref a) (.ref b) :=
  same_tup ⟨_, ha, rfl, k, rfl⟩ ⟨_, hb, rfl, k', rfl⟩ rfl same_cmd_items
end
section
namespace law_rows_right_specK
noncomputable def skP (w : World) (mean : ExcName → Option Value) (mg : Str → Option Value) (mb : Str → Option Value) (dp : Nat) (un : Nat) (gd : Option (List Code)) (cn : Str) (cs : Scope) (a : Addr) (ccd : Value) (cl : List (Str × Addr)) (outer : List Env) (A₀ : Around) (base : Heap) (h₀ : Heap) (L : Addr) (m : Str → Option Value) (s : Shared) (Q : Value → Shared → Prop) (E : Value → Shared → Prop) (o : Obj) (io : Obj) (t : Addr) (inner : Addr) (lc : Addr) (u : Tok) (n : Nat) (nc : Nat) (cmds : List Cmd) (vs : List Value) : Prop :=
  (n ≤ 4) → (cmds.length ≤ 4) → (∀ c ∈ cmds, okCmd n c) → UTSpecAt w mean mg mb dp un gd cn cs a ccd cl outer A₀ base h₀ L m s Q E o io 7 269 [.ref t, .ref lc, .int (n : Int) u] t inner (fun h => lc ≠ t ∧ h.get? lc = some (listOf vs.toArray nc) ∧ Rel2 (CmdH h) cmds vs) (fun r => r = .bool true)
noncomputable def skc : Cx × (Addr) × (Addr) × (Addr) × (Tok) × (Nat) × (Nat) × (List Cmd) × (List Value) × Unit := pick ⟨(cx0, default, default, default, default, default, default, default, default, ())⟩ (fun p : Cx × (Addr) × (Addr) × (Addr) × (Tok) × (Nat) × (Nat) × (List Cmd) × (List Value) × Unit => skP p.1.w p.1.mean p.1.mg p.1.mb p.1.dp p.1.un p.1.gd p.1.cn p.1.cs p.1.a p.1.ccd p.1.cl p.1.outer p.1.A₀ p.1.base p.1.h₀ p.1.L p.1.m p.1.s p.1.Q p.1.E p.1.o p.1.io p.2.1 p.2.2.1 p.2.2.2.1 p.2.2.2.2.1 p.2.2.2.2.2.1 p.2.2.2.2.2.2.1 p.2.2.2.2.2.2.2.1 p.2.2.2.2.2.2.2.2.1)
@[irreducible] noncomputable def w : World := skc.1.w
@[irreducible] noncomputable def mean : ExcName → Option Value := skc.1.mean
@[irreducible] noncomputable def mg : Str → Option Value := skc.1.mg
@[irreducible] noncomputable def mb : Str → Option Value := skc.1.mb
@[irreducible] noncomputable def dp : Nat := skc.1.dp
@[irreducible] noncomputable def un : Nat := skc.1.un
@[irreducible] noncomputable def gd : Option (List Code) := skc.1.gd
@[irreducible] noncomputable def cn : Str := skc.1.cn
@[irreducible] noncomputable def cs : Scope := skc.1.cs
@[irreducible] noncomputable def a : Addr := skc.1.a
@[irreducible] noncomputable def ccd : Value := skc.1.ccd
@[irreducible] noncomputable def cl : List (Str × Addr) := skc.1.cl
@[irreducible] noncomputable def outer : List Env := skc.1.outer
@[irreducible] noncomputable def A₀ : Around := skc.1.A₀
@[irreducible] noncomputable def base : Heap := skc.1.base
@[irreducible] noncomputable def h₀ : Heap := skc.1.h₀
@[irreducible] noncomputable def L : Addr := skc.1.L
@[irreducible] noncomputable def m : Str → Option Value := skc.1.m
@[irreducible] noncomputable def s : Shared := skc.1.s
@[irreducible] noncomputable def Q : Value → Shared → Prop := skc.1.Q
@[irreducible] noncomputable def E : Value → Shared → Prop := skc.1.E
@[irreducible] noncomputable def o : Obj := skc.1.o
@[irreducible] noncomputable def io : Obj := skc.1.io
@[irreducible] noncomputable def t : Addr := skc.2.1
@[irreducible] noncomputable def inner : Addr := skc.2.2.1
@[irreducible] noncomputable def lc : Addr := skc.2.2.2.1
@[irreducible] noncomputable def u : Tok := skc.2.2.2.2.1
@[irreducible] noncomputable def n : Nat := skc.2.2.2.2.2.1
@[irreducible] noncomputable def nc : Nat := skc.2.2.2.2.2.2.1
@[irreducible] noncomputable def cmds : List Cmd := skc.2.2.2.2.2.2.2.1
@[irreducible] noncomputable def vs : List Value := skc.2.2.2.2.2.2.2.2.1
noncomputable def en : { P : Addr → Heap → Prop // (∀ L' h', P L' h') → skP w mean mg mb dp un gd cn cs a ccd cl outer A₀ base h₀ L m s Q E o io t inner lc u n nc cmds vs } :=
  ⟨_, by
  intro hP hn hcl hok B F XB TB D hk hd hu hp N hT hi hio hret
  have X := XB.keeps B.stays
  have T := TB.keeps B.stays
  have hit := inner_ne hT hi hio (N _ List.mem_cons_self).1
  refine wpAny_call ?_
  k_dflt k_extra "enM"⟩
noncomputable def enc : Addr × Heap := pick ⟨default⟩ fun p => en.1 p.1 p.2
@[irreducible] noncomputable def L' : Addr := enc.1
@[irreducible] noncomputable def h' : Heap := enc.2
theorem enall (q : en.1 L' h') : ∀ a b, en.1 a b := by
  have q1 : (fun p : Addr × Heap => en.1 p.1 p.2) (pick ⟨default⟩ fun p => en.1 p.1 p.2) := by with_unfolding_all exact q
  exact fun a b => pick_spec (P := fun p : Addr × Heap => en.1 p.1 p.2) (ne := ⟨default⟩) q1 (a, b)
noncomputable def skmain_sb1 : { pQ : (Nat) → (Cmd) → (Heap) → (Obj) → (Option Value) → (Option Value) → (Option Value) → (Option Value) → (Option Value) → (Heap) → (Nat) → (Addr) → (Obj) → (Flow → Shared → Prop) → (Value → Shared → Prop) → (Addr) → (Tok) → (Tok) → (Tok) → (Nat) → Prop // (∀ (i : Nat) (c : Cmd) (g : Heap) (o1 : Obj) (n1 : Option Value) (n2 : Option Value) (n3 : Option Value) (n4 : Option Value) (n5 : Option Value) (h : Heap) (tk : Nat) (J : Addr) (oJ : Obj) (Q' : Flow → Shared → Prop) (E' : Value → Shared → Prop) (x : Addr) (t1 : Tok) (t2 : Tok) (t3 : Tok) (kk : Nat), pQ i c g o1 n1 n2 n3 n4 n5 h tk J oJ Q' E' x t1 t2 t3 kk) → (skP w mean mg mb dp un gd cn cs a ccd cl outer A₀ base h₀ L m s Q E o io t inner lc u n nc cmds vs) } := ⟨_, by
  intro hP_a
  intro hn hcl hok B F XB TB D hk hd hu hp N hT hi hio hret
  have X := XB.keeps B.stays
  have T := TB.keeps B.stays
  have hit := inner_ne hT hi hio (N _ List.mem_cons_self).1
  have D1 := dicts_hide (W := [t]) (dicts_push (name := cn) (scope := cs) (a := a) (cd := ccd) (cl := cl) D F) (by intro b hb hm; rw [List.mem_singleton.mp hm] at hb; exact off_frames B N _ List.mem_cons_self hb)
  refine en.2 (enall ?_) hn hcl hok B F XB TB D hk hd hu hp N hT hi hio hret
  intro _ _ _ _ _ _
  (try dsimp only)
  k_extra "k_steps"
  rename_i F1 N1 B1 X1 T1 hL1
  obtain ⟨hlt, hlc, hrel⟩ := hp
  have hlc0 : (hideAll s.heap [t]).get? lc = some (listOf vs.toArray nc) := hideAll_get _ hlc (by simpa using hlt)
  have hin0 : (hideAll s.heap [t]).get? inner = some io := hideAll_get _ hi (by simpa using hit)
  have hrel0 : Rel2 (CmdH (hideAll s.heap [t])) cmds vs := hrel.mono fun _ _ => CmdH.mono fun b o e _ hc => hideAll_get _ e (by simpa using tape_not_tuple hT (N _ List.mem_cons_self).1 e hc)
  clear N F B X T
  refine for_ruleU (by k_asm) (by rfl) (by rfl) ?_
  k_extra "k_steps"
  refine ForGoU.inv (σ := Obj × Option Value × Option Value × Option Value × Option Value × Option Value)
    (fun i g st => Below (ktrTop dp un gd cn cs L a ccd cl outer) base (envX cn cs L a ccd cl :: outer) g ∧ KtsTurn ((envX cn cs L a ccd cl :: outer).filterMap (·.frame)) (hideAll s.heap [t]) g ∧ TapeO inner st.1)
    (fun st => [(Str.ofString "made", st.2.1), (Str.ofString "row", st.2.2.1), (Str.ofString "at", st.2.2.2.1), (Str.ofString "bent", st.2.2.2.2.1), (Str.ofString "other", st.2.2.2.2.2)])
    (fun st => [(t, st.1)]) (o, none, none, none, none, none) (IterOf.rel hrel0 (iter_list (ol := listOf vs.toArray nc) rfl (F1.keep _ _ hlc0) rfl rfl)) (by k_asm) (by k_asm) (ovr_cons rfl (ovr_cons rfl (ovr_cons rfl (ovr_cons rfl (ovr_cons rfl fun _ => rfl))))) ⟨B1, KtsTurn.refl, hT⟩ ?_ ?_
  · intro i c v g; refine pr6 ?_
    intro o1 n1 n2 n3 n4 n5 h tk hc hz1 hz2 hS J oJ Q' E' F' N' hne hnext hbrk hret'
    obtain ⟨x, t1, t2, t3, kk, rfl, hx0⟩ := hz1
    obtain ⟨B2, Tn, hT1⟩ := hz2
    dsimp only [ovr] at *
    revert hn hcl hok XB TB D hk hd hu hT hi hio hret hit D1 F1 N1 B1 X1 T1 hL1 hlt hlc hrel hlc0 hin0 hrel0 hc hS N' hne hnext hbrk hret' hx0 F' B2 Tn hT1; exact hP_a i c g o1 n1 n2 n3 n4 n5 h tk J oJ Q' E' x t1 t2 t3 kk
  · intro g; refine pr6 ?_
    intro o1 n1 n2 n3 n4 n5 o' h' tk' hz1 hS F' N'
    obtain ⟨B2, Tn, hT1⟩ := hz1
    dsimp only [ovr] at *
    k_extra "k_steps"
    (try dsimp only)
    exact hret _ _ _ o1 (eff_retW Tn F') (N' (t, o1) List.mem_cons_self).1 hT1 rfl⟩
namespace skmain_a
noncomputable def c0 : (Nat) × (Cmd) × (Heap) × (Obj) × (Option Value) × (Option Value) × (Option Value) × (Option Value) × (Option Value) × (Heap) × (Nat) × (Addr) × (Obj) × (Flow → Shared → Prop) × (Value → Shared → Prop) × (Addr) × (Tok) × (Tok) × (Tok) × (Nat) × Unit := pick ⟨⟨default, default, default, default, default, default, default, default, default, default, default, default, default, default, default, default, default, default, default, default, ()⟩⟩ fun q => skmain_sb1.1 q.1 q.2.1 q.2.2.1 q.2.2.2.1 q.2.2.2.2.1 q.2.2.2.2.2.1 q.2.2.2.2.2.2.1 q.2.2.2.2.2.2.2.1 q.2.2.2.2.2.2.2.2.1 q.2.2.2.2.2.2.2.2.2.1 q.2.2.2.2.2.2.2.2.2.2.1 q.2.2.2.2.2.2.2.2.2.2.2.1 q.2.2.2.2.2.2.2.2.2.2.2.2.1 q.2.2.2.2.2.2.2.2.2.2.2.2.2.1 q.2.2.2.2.2.2.2.2.2.2.2.2.2.2.1 q.2.2.2.2.2.2.2.2.2.2.2.2.2.2.2.1 q.2.2.2.2.2.2.2.2.2.2.2.2.2.2.2.2.1 q.2.2.2.2.2.2.2.2.2.2.2.2.2.2.2.2.2.1 q.2.2.2.2.2.2.2.2.2.2.2.2.2.2.2.2.2.2.1 q.2.2.2.2.2.2.2.2.2.2.2.2.2.2.2.2.2.2.2.1
@[irreducible] noncomputable def i : Nat := c0.1
@[irreducible] noncomputable def c : Cmd := c0.2.1
@[irreducible] noncomputable def g : Heap := c0.2.2.1
@[irreducible] noncomputable def o1 : Obj := c0.2.2.2.1
@[irreducible] noncomputable def n1 : Option Value := c0.2.2.2.2.1
@[irreducible] noncomputable def n2 : Option Value := c0.2.2.2.2.2.1
@[irreducible] noncomputable def n3 : Option Value := c0.2.2.2.2.2.2.1
@[irreducible] noncomputable def n4 : Option Value := c0.2.2.2.2.2.2.2.1
@[irreducible] noncomputable def n5 : Option Value := c0.2.2.2.2.2.2.2.2.1
@[irreducible] noncomputable def h : Heap := c0.2.2.2.2.2.2.2.2.2.1
@[irreducible] noncomputable def tk : Nat := c0.2.2.2.2.2.2.2.2.2.2.1
@[irreducible] noncomputable def J : Addr := c0.2.2.2.2.2.2.2.2.2.2.2.1
@[irreducible] noncomputable def oJ : Obj := c0.2.2.2.2.2.2.2.2.2.2.2.2.1
@[irreducible] noncomputable def Q' : Flow → Shared → Prop := c0.2.2.2.2.2.2.2.2.2.2.2.2.2.1
@[irreducible] noncomputable def E' : Value → Shared → Prop := c0.2.2.2.2.2.2.2.2.2.2.2.2.2.2.1
@[irreducible] noncomputable def x : Addr := c0.2.2.2.2.2.2.2.2.2.2.2.2.2.2.2.1
@[irreducible] noncomputable def t1 : Tok := c0.2.2.2.2.2.2.2.2.2.2.2.2.2.2.2.2.1
@[irreducible] noncomputable def t2 : Tok := c0.2.2.2.2.2.2.2.2.2.2.2.2.2.2.2.2.2.1
@[irreducible] noncomputable def t3 : Tok := c0.2.2.2.2.2.2.2.2.2.2.2.2.2.2.2.2.2.2.1
@[irreducible] noncomputable def kk : Nat := c0.2.2.2.2.2.2.2.2.2.2.2.2.2.2.2.2.2.2.2.1
theorem main : skmain_sb1.1 i c g o1 n1 n2 n3 n4 n5 h tk J oJ Q' E' x t1 t2 t3 kk := by
  intro hn hcl hok XB TB D hk hd hu hT hi hio hret hit D1 F1 N1 B1 X1 T1 hL1 hlt hlc hrel hlc0 hin0 hrel0 hc hS N' hne hnext hbrk hret' hx0 F' B2 Tn hT1
  have X2 := XB.keeps B2.stays
  have T2 := TB.keeps B2.stays
  have hxg : g.get? x = some (cmdT t1 t2 t3 kk c) := turn_keep D1 Tn hx0 (fun _ _ z => by cases z)
  have hig : g.get? inner = some io := turn_keep D1 Tn hin0 (fun _ _ z => by obtain ⟨items, n2, hic, hid, _⟩ := hio; rw [hid] at z; cases z)
  have hokc := hok c (List.mem_of_getElem? hc)
  have hcle := crow_le hokc hn
  have hnl := lawNames_le hokc.2.2
  have h1l := hokc.1
  have h2l := hokc.2.1
  k_extra "k_steps"
  refine item_of (T := "tuple") (k := 0) (v := .bytes c.1.toArray t1) (o := cmdT t1 t2 t3 kk c) (by exact fr_stays (by k_asm) _ _ hxg) (by exact .inr rfl) (by rfl) (by rfl) (by rfl) (by rfl) (by show 3 ≤ _; omega) ?_
  k_extra "k_steps"
  refine item_of (T := "tuple") (k := 1) (v := .bytes c.2.1.toArray t2) (o := cmdT t1 t2 t3 kk c) (by exact fr_stays (by k_asm) _ _ hxg) (by exact .inr rfl) (by rfl) (by rfl) (by rfl) (by rfl) (by show 3 ≤ _; omega) ?_
  k_extra "k_steps"
  refine item_of (T := "tuple") (k := 2) (v := .str (S (tx c.2.2)) t3) (o := cmdT t1 t2 t3 kk c) (by exact fr_stays (by k_asm) _ _ hxg) (by exact .inr rfl) (by rfl) (by rfl) (by rfl) (by rfl) (by show 3 ≤ _; omega) ?_
  k_extra "k_steps"
  refine Spec.use (make_cmd_spec _ _ _) (by k_asm) (by k_asm) (by k_asm) (by k_asm) (by k_asm) rfl (by k_extra "ktr_room") (by k_extra "ktr_room") trivial ?_ (fun x => x.elim)
  rintro r tl h' tk' F' N' hsep hst hst'
  obtain ⟨mc, md, k1, k2, k3, rfl, rfl⟩ := hst'
  dsimp only [List.cons_append, List.nil_append] at N' hsep
  k_extra "k_steps"
  refine Spec.use (law_row_spec x t1 t2 t3 kk c (by omega) (by omega) (by omega)) (by k_asm) (by k_asm) (by k_asm) (by k_asm) (by k_asm) rfl (by k_extra "ktr_room") (by k_extra "ktr_room") (fr_stays (by k_asm) _ _ hxg) ?_ (fun x => x.elim)
  rintro r tl h' tk' F' N' hsep2 hst2 ⟨rfl, u5, rfl⟩
  k_extra "k_steps"
  dsimp only
  rename_i F2 N2
  have N3 : News g L' _ [(mc, instObj 181 md), (md, cmdD w k1 k2 k3 (Value.bytes c.fst.toArray t1) (Value.bytes c.snd.fst.toArray t2) (Value.str (S (tx c.snd.snd)) t3)), (J, oJ), (t, o1)] := news_weak N2 fun p hp => List.mem_cons_of_mem _ hp
  clear N2
  refine Spec.use (cmd_row_spec mc md k1 k2 k3 t1 t2 t3 c.1 c.2.1 c.2.2 (by omega) (by omega) (by omega)) (by k_asm) (by k_asm) (by k_asm) (by k_asm) (by k_asm) rfl (by k_extra "ktr_room") (by k_extra "ktr_room") (stand_two (N3 _ (by simp)).1 (N3 _ (by simp)).1) ?_ (fun x => x.elim)
  rintro r tl h' tk' F' N' hsep3 hst3 ⟨rfl, u6, rfl⟩
  have D2 := D1.turn Tn
  k_extra "k_steps"
  · exfalso
    have h : (crow c != crow c) = true := by assumption
    simp at h
  have N5 : News g L' _ [(t, o1), (J, oJ)] := news_weak N' fun p hp => by
    simp only [List.nil_append, List.mem_cons, List.not_mem_nil, or_false] at hp ⊢
    rcases hp with h | h <;> simp [h]
  clear N' N3
  refine USpec.use (law_told_spec (crow c) _ _ n (by omega) (by omega)) B2 (by k_asm) XB N5 TB D2 rfl (by k_extra "ktr_room") (by k_extra "ktr_room") trivial ?_
  rintro r tl h' tk' g2 Tn2 B3 F' N' X3 T3 D3 hsep4 Ef ⟨hcut, _⟩
  rw [rd_crow hokc] at hcut
  obtain ⟨tt, q1, q2, q3, k9, rfl, rfl⟩ := hcut
  have hxg2 := turn_keep D2 Tn2 hxg (fun _ _ z => by cases z)
  have hig2 := turn_keep D2 Tn2 hig (fun _ _ z => by obtain ⟨items, n2, hic, hid, _⟩ := hio; rw [hid] at z; cases z)
  have Tn3 := Tn.trans Tn2
  clear B2 X2 T2 D2 Tn2 Tn N5
  k_extra "k_steps"
  refine ne_cmd (N' (tt, cmdT q1 q2 q3 k9 c) (by simp)).1 (fr_stays (by k_asm) _ _ hxg2) (by k_extra "ktr_room") ?_
  have qtJ : t ≠ J := hne (t, o1) (by simp)
  have N6 : News g2 L' _ [(t, o1), (J, oJ)] := news_weak N' fun p hp => List.mem_cons_of_mem _ hp
  clear N'
  k_extra "k_steps"
  refine draw (by k_asm) (by k_asm) (by k_asm) N6 (by k_asm) rfl (by k_extra "ktr_room") (by k_extra "ktr_room") (fun p hp => by rw [List.mem_singleton.mp hp]; exact Ne.symm qtJ) hT1 (fr_stays (by k_asm) _ _ hig2) hio (by omega) fun w1 uw1 h' tk' o2 hw0 hw1 F' N' hT2 hst => ?_
  k_extra "k_steps"
  rename_i Dn hx7 F7 N7 l7
  obtain ⟨Nb, hrb⟩ := tape_front N7 l7.1 (fun p hp => by rw [List.mem_singleton.mp hp]; exact Ne.symm qtJ)
  clear N7
  refine draw (by k_asm) (by k_asm) (by k_asm) Nb (by k_asm) rfl (by k_extra "ktr_room") (by k_extra "ktr_room") hrb hT2 (fr_stays (by k_asm) _ _ hig2) hio (by decide) fun w2 uw2 h' tk' o3 hw20 hw21 F' N' hT3 hst => ?_
  k_extra "k_steps"
  refine item_any (fun v => ∃ b : List UInt8, b.length ≤ 1 ∧ BytV b v) (by k_asm) (by k_mem) hw20 (by simpa using hw21) (by show 5 ≤ _; omega) (fun v hv => ?_) ?_
  · simp only [List.mem_cons, List.not_mem_nil, or_false] at hv
    rcases hv with rfl | rfl | rfl | rfl | rfl
    · exact ⟨[32], Nat.le_refl _, _, rfl⟩
    · exact ⟨[103], Nat.le_refl _, _, rfl⟩
    · exact ⟨[65], Nat.le_refl _, _, rfl⟩
    · exact ⟨[48], Nat.le_refl _, _, rfl⟩
    · exact ⟨[], by decide, _, rfl⟩
  rintro _ ⟨bb, hbb, ub, rfl⟩
  have N8 : News g2 L' _ [(t, o3), (J, oJ)] := news_weak N' fun p hp => by
    simp only [List.mem_cons, List.not_mem_nil, or_false] at hp ⊢
    rcases hp with h | h <;> simp [h]
  clear N' Nb hrb
  k_extra "k_steps"
  try clear N8
  refine for_ruleU (by k_asm) (by rfl) (by rfl) ?_
  k_extra "k_steps"
  rename_i F9 N9 l9
  refine ForGoU.inv (σ := Unit) (xs := [cutL (crow c) none (some w1) ++ bb ++ cutL (crow c) (some (w1 + 1)) none, cutL (crow c) none (some w1), cutL (crow c) none (some (4 * (n : Int) + 2))]) (V := BytV)
    (fun i g st => Below (ktrTop dp un gd cn cs L a ccd cl outer) base (envX cn cs L a ccd cl :: outer) g ∧ KtsTurn ((envX cn cs L a ccd cl :: outer).filterMap (·.frame)) (hideAll s.heap [t]) g)
    (fun _ => []) (fun _ => [_, (t, o3), (J, oJ)]) () (IterOf.rel (ys := [_, _, _]) (G := BytV) ⟨⟨_, rfl⟩, ⟨_, rfl⟩, ⟨_, rfl⟩, trivial⟩ (iter_tuple rfl (N9 _ List.mem_cons_self).1 rfl rfl)) (by exact F9) (by exact N9) (fun _ => rfl) ⟨by k_asm, Tn3⟩ ?_ ?_
  · intro i2 b v2 g4 st4 h4 tk4 hb4 hz0 hz1 hS4 J2 oJ2 Q2 E2 F' N' hne2 hnext2 hbrk2 hret2
    obtain ⟨ub4, rfl⟩ := hz0
    obtain ⟨B4, Tn4⟩ := hz1
    dsimp only [ovr] at *
    have hbl : b.length ≤ 1000 := by
      have hm := List.mem_of_getElem? hb4
      simp only [List.mem_cons, List.not_mem_nil, or_false] at hm
      rcases hm with rfl | rfl | rfl
      · simp only [List.length_append]; omega
      · omega
      · omega
    have X4 := XB.keeps B4.stays
    have T4 := TB.keeps B4.stays
    have D4 := D1.turn Tn4
    try clear X3 T3 B3 D3 Tn3
    try clear F9 N9
    k_extra "k_steps"
    refine USpec.use (law_told_spec b _ _ n (by omega) (by omega)) B4 (by k_asm) XB N' TB D4 rfl (by k_extra "ktr_room") (by k_extra "ktr_room") trivial ?_
    rintro r tl h' tk' g5 Tn5 B5 F' N' X5 T5 D5 hsep5 Ef ⟨hcut, hnil⟩
    try clear X4 T4
    k_extra "k_steps"
    refine Spec.use (law_cut_spec b _ _ n (by omega) (by omega)) (by k_asm) (by k_asm) (by k_asm) (by k_asm) (by k_asm) rfl (by k_extra "ktr_room") (by k_extra "ktr_room") trivial ?_ (fun x => x.elim)
    rintro r2 tl2 h' tk' F' N' hsep6 hst6 ⟨hcut2, hnil2⟩
    cases hrb : rd b n with
    | none =>
      rw [hrb] at hcut hcut2
      have e1 : r = .none := hcut
      have e2 : r2 = .none := hcut2
      subst e1 e2
      refine ne_none ?_
      k_extra "k_steps"
      exact hnext2 g5 () .next _ _ _ (.inl rfl) F' (fun z hz => by (try dsimp only [upd]); rw [if_neg hz]) (news_weak N' fun p hp => List.mem_append_right _ (List.mem_append_right _ hp)) hne2 (fun p hp => by
        rw [List.mem_singleton.mp hp]
        exact (N' _ (List.mem_append_right _ (List.mem_append_right _ (List.mem_cons_of_mem _ List.mem_cons_self)))).1) ⟨B5, Tn4.trans Tn5⟩
    | some cb =>
      rw [hrb] at hcut hcut2
      obtain ⟨z1, a1, a2, a3, a4, rfl, rfl⟩ := hcut
      obtain ⟨z2, b1, b2, b3, b4, rfl, rfl⟩ := hcut2
      refine ne_cmd (N' (z1, cmdT a1 a2 a3 a4 cb) (by simp)).1 (N' (z2, cmdT b1 b2 b3 b4 cb) (by simp)).1 (by k_extra "ktr_room") ?_
      k_extra "k_steps"
      exact hnext2 g5 () .next _ _ _ (.inl rfl) F' (fun z hz => by (try dsimp only [upd]); rw [if_neg hz]) (news_weak N' fun p hp => List.mem_append_right _ (List.mem_append_right _ hp)) hne2 (fun p hp => by
        rw [List.mem_singleton.mp hp]
        exact (N' _ (List.mem_append_right _ (List.mem_append_right _ (List.mem_cons_of_mem _ List.mem_cons_self)))).1) ⟨B5, Tn4.trans Tn5⟩
  · rintro g4 st4 o4 h4 tk4 ⟨B4, Tn4⟩ hS4 F' N'
    dsimp only [ovr] at *
    k_extra "k_steps"
    refine' hnext g4 (o3, some (.ref mc), some (.bytes (crow c).toArray u5), some (.int w1 uw1), ?bent, o4) .next _ _ _ (.inl rfl) F' ?nm ?nn ?nj ?ns ?ni
    case nm =>
      intro z hz
      dsimp only [ovr, upd]
      by_cases e1 : z = Str.ofString "other"
      · subst e1; rfl
      · by_cases e2 : z = Str.ofString "bent"
        · subst e2; rfl
        · by_cases e3 : z = Str.ofString "at"
          · subst e3; rfl
          · by_cases e4 : z = Str.ofString "made"
            · subst e4; rfl
            · by_cases e5 : z = Str.ofString "row"
              · subst e5; rfl
              · simp only [e1, e2, e3, e4, e5, hz, if_false]
    case nn =>
      refine news_weak N' fun p hp => ?_
      simp only [List.mem_cons, List.not_mem_nil, or_false] at hp ⊢
      rcases hp with h | h <;> simp [h]
    case nj => intro p hp; rw [List.mem_singleton.mp hp]; exact qtJ
    case ns => intro p hp; rw [List.mem_singleton.mp hp]; exact F'.keep _ _ (turn_keep D1 Tn4 hlc0 (fun _ _ z => by cases z))
    case ni => exact ⟨B4, Tn4, hT3⟩
theorem all : ∀ a0 a1 a2 a3 a4 a5 a6 a7 a8 a9 a10 a11 a12 a13 a14 a15 a16 a17 a18 a19, skmain_sb1.1 a0 a1 a2 a3 a4 a5 a6 a7 a8 a9 a10 a11 a12 a13 a14 a15 a16 a17 a18 a19 := by
  have q1 : (fun q : (Nat) × (Cmd) × (Heap) × (Obj) × (Option Value) × (Option Value) × (Option Value) × (Option Value) × (Option Value) × (Heap) × (Nat) × (Addr) × (Obj) × (Flow → Shared → Prop) × (Value → Shared → Prop) × (Addr) × (Tok) × (Tok) × (Tok) × (Nat) × Unit => skmain_sb1.1 q.1 q.2.1 q.2.2.1 q.2.2.2.1 q.2.2.2.2.1 q.2.2.2.2.2.1 q.2.2.2.2.2.2.1 q.2.2.2.2.2.2.2.1 q.2.2.2.2.2.2.2.2.1 q.2.2.2.2.2.2.2.2.2.1 q.2.2.2.2.2.2.2.2.2.2.1 q.2.2.2.2.2.2.2.2.2.2.2.1 q.2.2.2.2.2.2.2.2.2.2.2.2.1 q.2.2.2.2.2.2.2.2.2.2.2.2.2.1 q.2.2.2.2.2.2.2.2.2.2.2.2.2.2.1 q.2.2.2.2.2.2.2.2.2.2.2.2.2.2.2.1 q.2.2.2.2.2.2.2.2.2.2.2.2.2.2.2.2.1 q.2.2.2.2.2.2.2.2.2.2.2.2.2.2.2.2.2.1 q.2.2.2.2.2.2.2.2.2.2.2.2.2.2.2.2.2.2.1 q.2.2.2.2.2.2.2.2.2.2.2.2.2.2.2.2.2.2.2.1) (pick ⟨⟨default, default, default, default, default, default, default, default, default, default, default, default, default, default, default, default, default, default, default, default, ()⟩⟩ fun q => skmain_sb1.1 q.1 q.2.1 q.2.2.1 q.2.2.2.1 q.2.2.2.2.1 q.2.2.2.2.2.1 q.2.2.2.2.2.2.1 q.2.2.2.2.2.2.2.1 q.2.2.2.2.2.2.2.2.1 q.2.2.2.2.2.2.2.2.2.1 q.2.2.2.2.2.2.2.2.2.2.1 q.2.2.2.2.2.2.2.2.2.2.2.1 q.2.2.2.2.2.2.2.2.2.2.2.2.1 q.2.2.2.2.2.2.2.2.2.2.2.2.2.1 q.2.2.2.2.2.2.2.2.2.2.2.2.2.2.1 q.2.2.2.2.2.2.2.2.2.2.2.2.2.2.2.1 q.2.2.2.2.2.2.2.2.2.2.2.2.2.2.2.2.1 q.2.2.2.2.2.2.2.2.2.2.2.2.2.2.2.2.2.1 q.2.2.2.2.2.2.2.2.2.2.2.2.2.2.2.2.2.2.1 q.2.2.2.2.2.2.2.2.2.2.2.2.2.2.2.2.2.2.2.1) := by with_unfolding_all exact main
  exact fun a0 a1 a2 a3 a4 a5 a6 a7 a8 a9 a10 a11 a12 a13 a14 a15 a16 a17 a18 a19 => pick_spec (P := fun q : (Nat) × (Cmd) × (Heap) × (Obj) × (Option Value) × (Option Value) × (Option Value) × (Option Value) × (Option Value) × (Heap) × (Nat) × (Addr) × (Obj) × (Flow → Shared → Prop) × (Value → Shared → Prop) × (Addr) × (Tok) × (Tok) × (Tok) × (Nat) × Unit => skmain_sb1.1 q.1 q.2.1 q.2.2.1 q.2.2.2.1 q.2.2.2.2.1 q.2.2.2.2.2.1 q.2.2.2.2.2.2.1 q.2.2.2.2.2.2.2.1 q.2.2.2.2.2.2.2.2.1 q.2.2.2.2.2.2.2.2.2.1 q.2.2.2.2.2.2.2.2.2.2.1 q.2.2.2.2.2.2.2.2.2.2.2.1 q.2.2.2.2.2.2.2.2.2.2.2.2.1 q.2.2.2.2.2.2.2.2.2.2.2.2.2.1 q.2.2.2.2.2.2.2.2.2.2.2.2.2.2.1 q.2.2.2.2.2.2.2.2.2.2.2.2.2.2.2.1 q.2.2.2.2.2.2.2.2.2.2.2.2.2.2.2.2.1 q.2.2.2.2.2.2.2.2.2.2.2.2.2.2.2.2.2.1 q.2.2.2.2.2.2.2.2.2.2.2.2.2.2.2.2.2.2.1 q.2.2.2.2.2.2.2.2.2.2.2.2.2.2.2.2.2.2.2.1) (ne := ⟨⟨default, default, default, default, default, default, default, default, default, default, default, default, default, default, default, default, default, default, default, default, ()⟩⟩) q1 ⟨a0, a1, a2, a3, a4, a5, a6, a7, a8, a9, a10, a11, a12, a13, a14, a15, a16, a17, a18, a19, ()⟩
end skmain_a
theorem skmain : skP w mean mg mb dp un gd cn cs a ccd cl outer A₀ base h₀ L m s Q E o io t inner lc u n nc cmds vs := skmain_sb1.2 skmain_a.all
theorem skall : skP skc.1.w skc.1.mean skc.1.mg skc.1.mb skc.1.dp skc.1.un skc.1.gd skc.1.cn skc.1.cs skc.1.a skc.1.ccd skc.1.cl skc.1.outer skc.1.A₀ skc.1.base skc.1.h₀ skc.1.L skc.1.m skc.1.s skc.1.Q skc.1.E skc.1.o skc.1.io skc.2.1 skc.2.2.1 skc.2.2.2.1 skc.2.2.2.2.1 skc.2.2.2.2.2.1 skc.2.2.2.2.2.2.1 skc.2.2.2.2.2.2.2.1 skc.2.2.2.2.2.2.2.2.1 := by
  with_unfolding_all exact skmain
end law_rows_right_specK
theorem law_rows_right_spec {w : World} {mean : ExcName → Option Value} {mg mb : Str → Option Value} (t inner lc : Addr) (u : Tok) (n nc : Nat) (cmds : List Cmd) (vs : List Value) (hn : n ≤ 4) (hcl : cmds.length ≤ 4) (hok : ∀ c ∈ cmds, okCmd n c) :
    UTSpec w mean mg mb 7 269 [.ref t, .ref lc, .int (n : Int) u] t inner (fun h => lc ≠ t ∧ h.get? lc = some (listOf vs.toArray nc) ∧ Rel2 (CmdH h) cmds vs) (fun r => r = .bool true) := by
  intro dp un gd cn cs a ccd cl outer A₀ base h₀ L m s Q E o io
  exact pick_spec (P := fun p : Cx × (Addr) × (Addr) × (Addr) × (Tok) × (Nat) × (Nat) × (List Cmd) × (List Value) × Unit => law_rows_right_specK.skP p.1.w p.1.mean p.1.mg p.1.mb p.1.dp p.1.un p.1.gd p.1.cn p.1.cs p.1.a p.1.ccd p.1.cl p.1.outer p.1.A₀ p.1.base p.1.h₀ p.1.L p.1.m p.1.s p.1.Q p.1.E p.1.o p.1.io p.2.1 p.2.2.1 p.2.2.2.1 p.2.2.2.2.1 p.2.2.2.2.2.1 p.2.2.2.2.2.2.1 p.2.2.2.2.2.2.2.1 p.2.2.2.2.2.2.2.2.1) law_rows_right_specK.skall (⟨w, mean, mg, mb, dp, un, gd, cn, cs, a, ccd, cl, outer, A₀, base, h₀, L, m, s, Q, E, o, io⟩, t, inner, lc, u, n, nc, cmds, vs, ()) hn hcl hok
end
section
variable {w : World} {mean : ExcName → Option Value} {mg mb : Str → Option Value}
end
end
section
set_option maxHeartbeats 4000000
section
variable {w : World} {mean : ExcName → Option Value} {mg mb : Str → Option Value}
noncomputable def lawWords : List (List UInt8) := [[114, 101, 112, 111, 114, 116, 45, 115, 116, 97, 116, 117, 115], [111, 102, 115, 45, 100, 101, 108, 116, 97], [120, 61, 49]]
theorem lawWords_le {x : List UInt8} (h : x ∈ lawWords) : x.length ≤ 13 := by
  have : ∀ x ∈ lawWords, x.length ≤ 13 := by decide
  exact this _ h
theorem turn2 {h₀ h : Heap} {L I C D : Addr} {p1 p2 : Addr × Obj} {oI oC oD : Obj} {l : List (Addr × Obj)} (N : News h₀ L h ([p1, p2] ++ (I, oI) :: (C, oC) :: (D, oD) :: l)) (hsep : ∀ p ∈ [p1, p2], ∀ q ∈ (I, oI) :: (C, oC) :: (D, oD) :: l, p.1 ≠ q.1) (off : Off3 I C D l) :
    News h₀ L h ((I, oI) :: (C, oC) :: (D, oD) :: (p1 :: p2 :: l)) ∧ Off3 I C D (p1 :: p2 :: l) := by
  refine ⟨news_weak N fun p hp => ?_, Off3.of fun p hp => ?_⟩
  · simp only [List.cons_append, List.nil_append, List.mem_cons] at hp ⊢
    rcases hp with h | h | h | h | h | h <;> simp [h]
  · have key : ∀ p ∈ [p1, p2], p.1 ≠ I ∧ p.1 ≠ C ∧ p.1 ≠ D := fun p hp => ⟨hsep p hp (I, oI) (by simp), hsep p hp (C, oC) (by simp), hsep p hp (D, oD) (by simp)⟩
    rcases List.mem_cons.mp hp with rfl | hp
    · exact key _ (by simp)
    · rcases List.mem_cons.mp hp with rfl | hp
      · exact key _ (by simp)
      · exact off.mem p hp
theorem req_ledger {h₀ h : Heap} {L : Addr} {a b c d e : Addr × Obj} {l : List (Addr × Obj)} (N : News h₀ L h (a :: b :: c :: d :: e :: l)) : News h₀ L h (a :: b :: c :: d :: l) := news_weak N fun p hp => by
  simp only [List.mem_cons] at hp ⊢
  rcases hp with h | h | h | h | h <;> simp [h]
theorem new_ne {h : Heap} {l e : Addr} {o : Obj} (ho : h.get? l = some o) (he : h.get? e = none) : l ≠ e := by
  rintro rfl; rw [he] at ho; cases ho
theorem new_ne_L {g h : Heap} {L e : Addr} {m : Nms} (F : Fr g L h m) (he : h.get? e = none) : e ≠ L := by
  rintro rfl
  obtain ⟨oL, _, _, hL, _⟩ := F.ns
  rw [he] at hL; cases hL
theorem old_ne_L {g h : Heap} {L l : Addr} {m : Nms} {o : Obj} (F : Fr g L h m) (ho : g.get? l = some o) : l ≠ L := Nat.ne_of_lt (Nat.lt_of_lt_of_le (Heap.lt_size ho) F.above)
theorem same_rel {α : Type} {s : Shared} {k : Nat} {G G' : α → Value → Prop} {xs : List α} {as bs : List Value} {a b : Addr} (hG : ∀ x v v', x ∈ xs → G x v → G' x v' → Same s k v v') (ha : s.heap.IsList a as.toArray) (hb : s.heap.IsList b bs.toArray) (h1 : Rel2 G xs as) (h2 : Rel2 G' xs bs) : Same s (k + 1) (.ref a) (.ref b) := by
  refine same_list ha hb (by simp only [List.size_toArray]; rw [h1.length, h2.length]) fun j q1 q2 => ?_
  have e1 : as[j]? = some (as.toArray[j]) := by simp at q1 ⊢
  have e2 : bs[j]? = some (bs.toArray[j]) := by simp at q2 ⊢
  obtain ⟨x, hx, g1⟩ := h1.get e1
  obtain ⟨x', hx', g2⟩ := h2.get e2
  rw [hx] at hx'
  cases hx'
  exact hG x _ _ (List.mem_of_getElem? hx) g1 g2
theorem same_cmdH {s : Shared} {k : Nat} {c : Cmd} {v v' : Value} : CmdH s.heap c v → CmdH s.heap c v' → Same s (k + 1) v v' := by
  rintro ⟨x, t1, t2, t3, n, rfl, e1⟩ ⟨x', u1, u2, u3, n', rfl, e2⟩
  exact same_cmd e1 e2
theorem same_txt {s : Shared} {k : Nat} {wd : List UInt8} {v v' : Value} : TxtV (tx wd) v → TxtV (tx wd) v' → Same s k v v' := by
  rintro ⟨t, rfl⟩ ⟨u, rfl⟩
  exact same_str
/-- a request that was read, and one laid by hand -/
theorem eq_req {A : Around} {s : Shared} {E Q : Value → Shared → Prop} {q : Req} {r : Value} {tl : List (Addr × Obj)} {d lc lw : Addr} {t : Tok} {kd nc nw : Nat} {vs wvs : List Value} (hr : ReqT q r tl) (htl : ∀ p ∈ tl, s.heap.get? p.1 = some p.2) (hd : s.heap.get? d = some (tupO #[.ref lc, .ref lw, .bytes q.2.2.toArray t] kd))
    (hlc : s.heap.get? lc = some (listOf vs.toArray nc)) (hlw : s.heap.get? lw = some (listOf wvs.toArray nw)) (h1 : Rel2 (CmdH s.heap) q.1 vs) (h2 : Rel2 (fun wd v => TxtV (tx wd) v) q.2.1 wvs) (hu : A.units + 4 < cLine) :
    (Q (.bool true) s → wpAny (model PR w) A (compareOp .Eq r (.ref d)) Q E s) ∧ (Q (.bool false) s → wpAny (model PR w) A (compareOp .NotEq r (.ref d)) Q E s) := by
  obtain ⟨x, t0, lc0, lw0, nc0, nw0, k0, cvs0, wvs0, rfl, hx, hlc0, hlw0, hr1, hr2⟩ := hr
  have hr3 : Rel2 (CmdH s.heap) q.1 cvs0 := hr1.mono fun c v => by
    rintro ⟨y, a1, a2, a3, a4, rfl, hy⟩
    exact ⟨y, a1, a2, a3, a4, rfl, htl _ hy⟩
  have it1 : s.heap.IsTuple x #[.ref lc0, .ref lw0, .bytes q.2.2.toArray t0] := ⟨_, htl _ hx, rfl, k0, rfl⟩
  have it2 : s.heap.IsTuple d #[.ref lc, .ref lw, .bytes q.2.2.toArray t] := ⟨_, hd, rfl, kd, rfl⟩
  have items : ∀ j (q1 : j < (#[Value.ref lc0, .ref lw0, .bytes q.2.2.toArray t0] : Array Value).size) (q2 : j < (#[Value.ref lc, .ref lw, .bytes q.2.2.toArray t] : Array Value).size), Same s 2 (#[Value.ref lc0, .ref lw0, .bytes q.2.2.toArray t0] : Array Value)[j] (#[Value.ref lc, .ref lw, .bytes q.2.2.toArray t] : Array Value)[j]
    | 0, _, _ => same_rel (G := CmdH s.heap) (G' := CmdH s.heap) (k := 1) (fun _ _ _ _ => same_cmdH) ⟨_, htl _ hlc0, rfl, nc0, rfl⟩ ⟨_, hlc, rfl, nc, rfl⟩ hr3 h1
    | 1, _, _ => same_rel (G := fun wd v => TxtV (tx wd) v) (G' := fun wd v => TxtV (tx wd) v) (k := 1) (fun _ _ _ _ => same_txt) ⟨_, htl _ hlw0, rfl, nw0, rfl⟩ ⟨_, hlw, rfl, nw, rfl⟩ hr2 h2
    | 2, _, _ => same_bytes
    | j + 3, q1, _ => absurd q1 (by simp)
  exact ⟨fun h => eq_tup (k := 2) it1 it2 rfl items (by omega) h, fun h => ne_tup (k := 2) it1 it2 rfl items (by omega) h⟩
theorem in4 {α : Type} {p a b c d : α} {l : List α} (h : p ∈ l) : p ∈ a :: b :: c :: d :: l := List.mem_cons_of_mem _ (List.mem_cons_of_mem _ (List.mem_cons_of_mem _ (List.mem_cons_of_mem _ h)))
theorem cond_ne {α : Type} : ∀ {cmds : List α} {vs : List Value}, vs.length = cmds.length → (!vs.isEmpty) = decide (cmds ≠ [])
  | [], [], _ => by simp
  | _ :: _, _ :: _, _ => by simp
theorem cond_eq {α : Type} : ∀ {cmds : List α} {vs : List Value}, vs.length = cmds.length → vs.isEmpty = decide (cmds = [])
  | [], [], _ => by simp
  | _ :: _, _ :: _, _ => by simp
theorem cut_one {M : Model} {A : Around} {E : Value → Shared → Prop} {s : Shared} {h₀ : Heap} {L : Addr} {m : Nms} {news : List (Addr × Obj)} {c : Sem Flow} {Q : Flow → Shared → Prop} (_F : Fr h₀ L s.heap m) (_N : News h₀ L s.heap news) (x : Str) (v : Tok → Value)
    (h : ∀ R : Flow → Shared → Prop, (∀ h' tk tb, Fr h₀ L h' (upd x (some (v tb)) m) → News h₀ L h' news → R .next { s with heap := h', toks := tk }) → wpAny M A c R E s)
    (h2 : ∀ h' tk tb, Fr h₀ L h' (upd x (some (v tb)) m) → News h₀ L h' news → Q .next { s with heap := h', toks := tk }) : wpAny M A c Q E s :=
  wpAny_mono (h (fun f s' => ∃ h' tk tb, f = .next ∧ s' = { s with heap := h', toks := tk } ∧ Fr h₀ L h' (upd x (some (v tb)) m) ∧ News h₀ L h' news) fun _ _ _ a b => ⟨_, _, _, rfl, rfl, a, b⟩)
    (fun _ _ ⟨_, _, _, e, e', a, b⟩ => by subst e; subst e'; exact h2 _ _ _ a b) fun _ _ e => e
theorem upd_twice {x : Str} {v v' : Option Value} {m : Nms} : upd x v (upd x v' m) = upd x v m := funext fun y => by
  unfold upd; by_cases e : y = x
  · rw [if_pos e, if_pos e]
  · rw [if_neg e, if_neg e, if_neg e]
end
section
namespace law_written_specK
noncomputable def skP (w : World) (mean : ExcName → Option Value) (mg : Str → Option Value) (mb : Str → Option Value) (dp : Nat) (un : Nat) (gd : Option (List Code)) (cn : Str) (cs : Scope) (a : Addr) (ccd : Value) (cl : List (Str × Addr)) (outer : List Env) (A₀ : Around) (base : Heap) (h₀ : Heap) (L : Addr) (m : Str → Option Value) (s : Shared) (Q : Value → Shared → Prop) (E : Value → Shared → Prop) (lc : Addr) (lw : Addr) (u : Tok) (up : Tok) (n : Nat) (nc : Nat) (nw : Nat) (cmds : List Cmd) (vs : List Value) (words : List (List UInt8)) (wvs : List Value) (pk : List UInt8) : Prop :=
  (n ≤ 4) → (cmds.length ≤ 4) → (∀ c ∈ cmds, okCmd n c) → (words.length ≤ 4) → (∀ x ∈ words, x ∈ lawWords) → (pk.length ≤ 5) → (Rel2 (fun wd v => TxtV (tx wd) v) words wvs) → (rq ((rowsL (joinL [32] words) cmds).flatten ++ [48, 48, 48, 48] ++ pk) n = some (cmds, if cmds = [] then [] else words, pk)) → USpecAt w mean mg mb dp un gd cn cs a ccd cl outer A₀ base h₀ L m s Q E 9 279 [.ref lc, .ref lw, .bytes pk.toArray up, .int (n : Int) u] (fun h => h.get? lc = some (listOf vs.toArray nc) ∧ Rel2 (CmdH h) cmds vs ∧ h.get? lw = some (listOf wvs.toArray nw)) (fun r tl => tl = [] ∧ r = .bool true)
noncomputable def skc : Cx × (Addr) × (Addr) × (Tok) × (Tok) × (Nat) × (Nat) × (Nat) × (List Cmd) × (List Value) × (List (List UInt8)) × (List Value) × (List UInt8) × Unit := pick ⟨(cx0, default, default, default, default, default, default, default, default, default, default, default, default, ())⟩ (fun p : Cx × (Addr) × (Addr) × (Tok) × (Tok) × (Nat) × (Nat) × (Nat) × (List Cmd) × (List Value) × (List (List UInt8)) × (List Value) × (List UInt8) × Unit => skP p.1.w p.1.mean p.1.mg p.1.mb p.1.dp p.1.un p.1.gd p.1.cn p.1.cs p.1.a p.1.ccd p.1.cl p.1.outer p.1.A₀ p.1.base p.1.h₀ p.1.L p.1.m p.1.s p.1.Q p.1.E p.2.1 p.2.2.1 p.2.2.2.1 p.2.2.2.2.1 p.2.2.2.2.2.1 p.2.2.2.2.2.2.1 p.2.2.2.2.2.2.2.1 p.2.2.2.2.2.2.2.2.1 p.2.2.2.2.2.2.2.2.2.1 p.2.2.2.2.2.2.2.2.2.2.1 p.2.2.2.2.2.2.2.2.2.2.2.1 p.2.2.2.2.2.2.2.2.2.2.2.2.1)
@[irreducible] noncomputable def w : World := skc.1.w
@[irreducible] noncomputable def mean : ExcName → Option Value := skc.1.mean
@[irreducible] noncomputable def mg : Str → Option Value := skc.1.mg
@[irreducible] noncomputable def mb : Str → Option Value := skc.1.mb
@[irreducible] noncomputable def dp : Nat := skc.1.dp
@[irreducible] noncomputable def un : Nat := skc.1.un
@[irreducible] noncomputable def gd : Option (List Code) := skc.1.gd
@[irreducible] noncomputable def cn : Str := skc.1.cn
@[irreducible] noncomputable def cs : Scope := skc.1.cs
@[irreducible] noncomputable def a : Addr := skc.1.a
@[irreducible] noncomputable def ccd : Value := skc.1.ccd
@[irreducible] noncomputable def cl : List (Str × Addr) := skc.1.cl
@[irreducible] noncomputable def outer : List Env := skc.1.outer
@[irreducible] noncomputable def A₀ : Around := skc.1.A₀
@[irreducible] noncomputable def base : Heap := skc.1.base
@[irreducible] noncomputable def h₀ : Heap := skc.1.h₀
@[irreducible] noncomputable def L : Addr := skc.1.L
@[irreducible] noncomputable def m : Str → Option Value := skc.1.m
@[irreducible] noncomputable def s : Shared := skc.1.s
@[irreducible] noncomputable def Q : Value → Shared → Prop := skc.1.Q
@[irreducible] noncomputable def E : Value → Shared → Prop := skc.1.E
@[irreducible] noncomputable def lc : Addr := skc.2.1
@[irreducible] noncomputable def lw : Addr := skc.2.2.1
@[irreducible] noncomputable def u : Tok := skc.2.2.2.1
@[irreducible] noncomputable def up : Tok := skc.2.2.2.2.1
@[irreducible] noncomputable def n : Nat := skc.2.2.2.2.2.1
@[irreducible] noncomputable def nc : Nat := skc.2.2.2.2.2.2.1
@[irreducible] noncomputable def nw : Nat := skc.2.2.2.2.2.2.2.1
@[irreducible] noncomputable def cmds : List Cmd := skc.2.2.2.2.2.2.2.2.1
@[irreducible] noncomputable def vs : List Value := skc.2.2.2.2.2.2.2.2.2.1
@[irreducible] noncomputable def words : List (List UInt8) := skc.2.2.2.2.2.2.2.2.2.2.1
@[irreducible] noncomputable def wvs : List Value := skc.2.2.2.2.2.2.2.2.2.2.2.1
@[irreducible] noncomputable def pk : List UInt8 := skc.2.2.2.2.2.2.2.2.2.2.2.2.1
noncomputable def en : { P : Addr → Heap → Prop // (∀ L' h', P L' h') → skP w mean mg mb dp un gd cn cs a ccd cl outer A₀ base h₀ L m s Q E lc lw u up n nc nw cmds vs words wvs pk } :=
  ⟨_, by
  intro hP hn hcl hok hwl hwk hpk hrw hpure B F XB TB D hk hd hu hp hret
  have X := XB.keeps B.stays
  have T := TB.keeps B.stays
  refine wpAny_call ?_
  k_dflt k_extra "enP"⟩
noncomputable def enc : Addr × Heap := pick ⟨default⟩ fun p => en.1 p.1 p.2
@[irreducible] noncomputable def L' : Addr := enc.1
@[irreducible] noncomputable def h' : Heap := enc.2
theorem enall (q : en.1 L' h') : ∀ a b, en.1 a b := by
  have q1 : (fun p : Addr × Heap => en.1 p.1 p.2) (pick ⟨default⟩ fun p => en.1 p.1 p.2) := by with_unfolding_all exact q
  exact fun a b => pick_spec (P := fun p : Addr × Heap => en.1 p.1 p.2) (ne := ⟨default⟩) q1 (a, b)
noncomputable def skmain_sb1 : { pQ : ((List Value) → (List (Addr × Obj)) → (Addr) → (Heap) → (Heap) → (Nat) → (Addr) → (Addr) → (Tok) → (Tok) → (Tok) → (Addr) → (Addr) → (Nat) → (Nat) → (Heap) → (Addr) → (Addr) → (Heap) → (Nat) → (Tok) → (Heap) → (Nat) → (Addr) → (Addr) → (Obj) → (Obj) → (Flow → Shared → Prop) → (Value → Shared → Prop) → (Tok) → (Option Value) → (Option Value) → (Option Value) → (Cmd) → (Addr) → (Tok) → (Tok) → (Tok) → (Nat) → Prop) × ((List Value) → (List (Addr × Obj)) → (Addr) → (Heap) → (Heap) → (Nat) → (Addr) → (Addr) → (Tok) → (Tok) → (Tok) → (Addr) → (Addr) → (Nat) → (Nat) → (Heap) → (Addr) → (Addr) → (Heap) → (Heap) → (Nat) → (Tok) → (Option Value) → (Option Value) → (Option Value) → Prop) // (∀ (ys : List Value) (news' : List (Addr × Obj)) (D7 : Addr) (z0 : Heap) (z2 : Heap) (tk' : Nat) (rc : Addr) (rdd : Addr) (k1 : Tok) (k2 : Tok) (k3 : Tok) (m1 : Addr) (m2 : Addr) (n1 : Nat) (n2 : Nat) (z4 : Heap) (e : Addr) (it : Addr) (h' : Heap) (i : Nat) (uk : Tok) (h : Heap) (tk : Nat) (e2 : Addr) (it2 : Addr) (oe2 : Obj) (oi2 : Obj) (Q' : Flow → Shared → Prop) (E' : Value → Shared → Prop) (t9 : Tok) (ok9 : Option Value) (oc9 : Option Value) (ob9 : Option Value) (c : Cmd) (x : Addr) (t1 : Tok) (t2 : Tok) (t3 : Tok) (kk : Nat), pQ.1 ys news' D7 z0 z2 tk' rc rdd k1 k2 k3 m1 m2 n1 n2 z4 e it h' i uk h tk e2 it2 oe2 oi2 Q' E' t9 ok9 oc9 ob9 c x t1 t2 t3 kk) → (∀ (ys : List Value) (news' : List (Addr × Obj)) (D7 : Addr) (h : Heap) (z0 : Heap) (z1 : Nat) (rc : Addr) (rdd : Addr) (k1 : Tok) (k2 : Tok) (k3 : Tok) (m1 : Addr) (m2 : Addr) (n1 : Nat) (n2 : Nat) (z3 : Heap) (e : Addr) (it : Addr) (z4 : Heap) (h' : Heap) (tk' : Nat) (t9 : Tok) (ok9 : Option Value) (oc9 : Option Value) (ob9 : Option Value), pQ.2 ys news' D7 h z0 z1 rc rdd k1 k2 k3 m1 m2 n1 n2 z3 e it z4 h' tk' t9 ok9 oc9 ob9) → (skP w mean mg mb dp un gd cn cs a ccd cl outer A₀ base h₀ L m s Q E lc lw u up n nc nw cmds vs words wvs pk) } := ⟨(_, _), by
  intro hP_a hP_b
  intro hn hcl hok hwl hwk hpk hrw hpure B F XB TB D hk hd hu hp hret
  have X := XB.keeps B.stays
  have T := TB.keeps B.stays
  refine en.2 (enall ?_) hn hcl hok hwl hwk hpk hrw hpure B F XB TB D hk hd hu hp hret
  intro _ _ _ _ _
  (try dsimp only)
  k_extra "k_steps"
  obtain ⟨hlc, hrel, hlw⟩ := hp
  have D1 := dicts_push (name := cn) (scope := cs) (a := a) (cd := ccd) (cl := cl) D F
  have hvl := hrel.length
  have hwvl := hrw.length
  k_extra "ktr_step"
  k_extra "k_steps"
  rename_i F1 N1 B1 X1 T1
  refine' ⟨Cmd, cmds, CmdH s.heap, [(lc, listOf vs.toArray nc)], ?nw0, fun i ys nw => Rel2 (CmdIn w nw) (cmds.take i) ys, IterOf.rel hrel (iter_list (ol := listOf vs.toArray nc) rfl (F1.keep _ _ hlc) rfl rfl), ?fF, ?nN, ?sz, trivial, ?turn, ?done, fun x => x.elim⟩
  case fF => exact F1
  case nN => exact N1
  case sz => rw [sizeLine_eq]; omega
  case turn =>
    intro i c v ys news₁ h tk C oC m₂ hc hz0 hr hS hC hxx hyl I oI D Q' E' F' N' off ne hret _
    obtain ⟨x, t1, t2, t3, kk, rfl, hx0⟩ := hz0
    have hokc := hok c (List.mem_of_getElem? hc)
    k_extra "k_steps"
    refine item_of (T := "tuple") (k := 0) (v := .bytes c.1.toArray t1) (o := cmdT t1 t2 t3 kk c) (by exact fr_stays (by k_asm) _ _ hx0) (by exact .inr rfl) (by rfl) (by rfl) (by rfl) (by rfl) (by show 3 ≤ _; omega) ?_
    k_extra "k_steps"
    refine item_of (T := "tuple") (k := 1) (v := .bytes c.2.1.toArray t2) (o := cmdT t1 t2 t3 kk c) (by exact fr_stays (by k_asm) _ _ hx0) (by exact .inr rfl) (by rfl) (by rfl) (by rfl) (by rfl) (by show 3 ≤ _; omega) ?_
    k_extra "k_steps"
    refine item_of (T := "tuple") (k := 2) (v := .str (S (tx c.2.2)) t3) (o := cmdT t1 t2 t3 kk c) (by exact fr_stays (by k_asm) _ _ hx0) (by exact .inr rfl) (by rfl) (by rfl) (by rfl) (by rfl) (by show 3 ≤ _; omega) ?_
    k_extra "k_steps"
    refine Spec.use (make_cmd_spec _ _ _) (by k_asm) (by k_asm) (by k_asm) (by k_asm) (by k_asm) rfl (by k_extra "ktr_room") (by k_extra "ktr_room") trivial ?_ (fun x => x.elim)
    rintro r tl h' tk' F' N' hsep hst hst'
    obtain ⟨mc, md, k1, k2, k3, rfl, rfl⟩ := hst'
    obtain ⟨Nn, On⟩ := turn2 N' hsep off
    refine hret _ (_ :: _ :: _) _ _ F' Nn On (fun p hp => by rw [List.mem_singleton.mp hp]; exact F'.keep _ _ hlc) ?_
    show Rel2 (CmdIn w _) (cmds.take (i + 1)) _
    rw [List.take_add_one, hc]
    exact (hr.mono fun _ _ => CmdIn.mono fun p hp => List.mem_cons_of_mem _ (List.mem_cons_of_mem _ hp)).snoc ⟨mc, md, k1, k2, k3, t1, t2, t3, rfl, List.mem_cons_self, List.mem_cons_of_mem _ List.mem_cons_self⟩
  case done =>
    intro ys news' hr hyl
    rw [List.take_length] at hr
    intro D7 h tk F' N' o1
    k_extra "k_steps"
    refine Spec.use (make_req_spec D7 lw ys.length nw ys.toArray wvs.toArray _ (by simp only [List.size_toArray]; omega) (by simp only [List.size_toArray]; omega)) (by k_asm) (by k_asm) (by k_asm) (by k_asm) (by k_asm) rfl (by k_extra "ktr_room") (by k_extra "ktr_room") (stand_two (N' (D7, lst ys) List.mem_cons_self).1 (F'.keep _ _ hlw)) ?_ (fun x => x.elim)
    rintro r tl h' tk' F' N' hsep hst ⟨rc, rdd, k1, k2, k3, m1, m2, n1, n2, rfl, rfl⟩
    dsimp only [List.cons_append, List.nil_append] at N' hsep
    have N2 := req_ledger N'
    clear N' hsep
    k_extra "k_steps"
    refine for_enum (by k_asm) rfl (by rfl) (by rfl) (by rfl) ?_
    k_extra "k_steps"
    rename_i F3 N3
    refine call_enum F3 N3 (F3.keep _ _ hlc) rfl rfl fun e it h' he hit F' N' hstE he0 hi0 hei => ?_
    have hws : (joinL [32] words).length ≤ 60 := by
      have e1 := joinL_le [32] words
      have e2 := sum_le (B := 13) words fun x hx => lawWords_le (hwk x hx)
      have e3 : ([32] : List UInt8).length = 1 := rfl
      rw [e3] at e1; omega
    have hoct : ∀ i, ((rowsL (joinL [32] words) (cmds.take i)).flatten).length ≤ 1000 := fun i => by
      have e1 := rowsL_le (ws := joinL [32] words) (cmds := cmds.take i) (B := 100) (fun c hc => (crow_le (hok c (List.mem_of_mem_take hc)) hn).1)
      have e2 := sum_le (B := 100 + (joinL [32] words).length + 10) _ e1
      rw [List.length_flatten]
      have e3 := rowsL_length (joinL [32] words) (cmds.take i)
      have e4 : (cmds.take i).length ≤ 4 := by rw [List.length_take]; omega
      have e5 : (rowsL (joinL [32] words) (cmds.take i)).length * (100 + (joinL [32] words).length + 10) ≤ 4 * 170 := Nat.mul_le_mul (by omega) (by omega)
      omega
    have qlc : s.heap.get? lc = some (listOf vs.toArray nc) := hlc
    refine' ⟨e, it, lc, listOf vs.toArray nc, vs.toArray, nc, ?mB, ?nB, fun i m' nw' => nw' = ?nB ∧ ∃ t ok oc ob, m' = ovr [(Str.ofString "command", oc), (Str.ofString "k", ok), (Str.ofString "behind", ob), (Str.ofString "octets", some (.bytes ((rowsL (joinL [32] words) (cmds.take i)).flatten).toArray t))] ?mB,
      rfl, he, hit, F'.keep _ _ hlc, rfl, rfl, hei, ?q1, ?q2, ?q3, ?q4, ?q5, ?q6, ?q7, ?q8, ?qF, ?qN, ?qJ, ?turnE, ?doneE⟩
    case qF => exact F'
    case qN => exact N'
    case qJ => exact ⟨rfl, _, _, _, _, funext (ovr_cons rfl (ovr_cons rfl (ovr_cons rfl (ovr_cons rfl fun _ => rfl))))⟩
    case q1 => exact new_ne (F3.keep _ _ hlc) he0
    case q2 => exact new_ne (F3.keep _ _ hlc) hi0
    case q3 => exact new_ne_L F3 he0
    case q4 => exact new_ne_L F3 hi0
    case q5 => exact old_ne_L F3 hlc
    case q6 => exact kts_none F3.keep he0
    case q7 => exact kts_none F3.keep hi0
    case q8 => exact fun p hp => ⟨new_ne (N3 p hp).1 he0, new_ne (N3 p hp).1 hi0⟩
    case turnE =>
      intro i v uk m₁ nw₁ h tk hv hz0 hS e2 it2 oe2 oi2 Q' E' F' N' hne hnext hbrk hret'
      obtain ⟨rfl, t9, ok9, oc9, ob9, rfl⟩ := hz0
      dsimp only [ovr] at *
      obtain ⟨c, hc, x, t1, t2, t3, kk, rfl, hx0⟩ := hrel.get (by simpa using hv)
      rename_i z0 z1 z2 z3 z4 z5 z6
      revert hP_b hn hcl hok hwl hwk hpk hrw hpure B F XB TB D hk hd hu hret X T B1 X1 T1 hlc hrel hlw D1 hvl hwvl hr hyl o1 hst F3 N3 he hit z5 z6 hstE he0 hi0 hei hws hoct qlc hS hnext hbrk hret' N' hne hc hx0 hv F'; exact hP_a ys news' D7 z0 z2 tk' rc rdd k1 k2 k3 m1 m2 n1 n2 z4 e it h' i uk h tk e2 it2 oe2 oi2 Q' E' t9 ok9 oc9 ob9 c x t1 t2 t3 kk
    case doneE =>
      rintro m' nw₁ h' tk' ⟨rfl, t9, ok9, oc9, ob9, rfl⟩ hS F' N'
      have et : cmds.take vs.toArray.size = cmds := List.take_of_length_le (by simp only [List.size_toArray]; omega)
      have ho := hoct vs.toArray.size
      rw [et] at ho F'
      dsimp only [ovr] at *
      rename_i z0 z1 z2 z3 z4 z5 z6
      revert hn hcl hok hwl hwk hpk hrw hpure B F XB TB D hk hd hu hret X T B1 X1 T1 hlc hrel hlw D1 hvl hwvl hr hyl o1 hst F3 N3 he hit z5 z6 hstE he0 hi0 hei hws hoct qlc hS F' N' et ho; exact hP_b ys news' D7 h z0 z1 rc rdd k1 k2 k3 m1 m2 n1 n2 z3 e it z4 h' tk' t9 ok9 oc9 ob9⟩
namespace skmain_a
noncomputable def c0 : (List Value) × (List (Addr × Obj)) × (Addr) × (Heap) × (Heap) × (Nat) × (Addr) × (Addr) × (Tok) × (Tok) × (Tok) × (Addr) × (Addr) × (Nat) × (Nat) × (Heap) × (Addr) × (Addr) × (Heap) × (Nat) × (Tok) × (Heap) × (Nat) × (Addr) × (Addr) × (Obj) × (Obj) × (Flow → Shared → Prop) × (Value → Shared → Prop) × (Tok) × (Option Value) × (Option Value) × (Option Value) × (Cmd) × (Addr) × (Tok) × (Tok) × (Tok) × (Nat) × Unit := pick ⟨⟨default, default, default, default, default, default, default, default, default, default, default, default, default, default, default, default, default, default, default, default, default, default, default, default, default, default, default, default, default, default, default, default, default, default, default, default, default, default, default, ()⟩⟩ fun q => (skmain_sb1.1.1) q.1 q.2.1 q.2.2.1 q.2.2.2.1 q.2.2.2.2.1 q.2.2.2.2.2.1 q.2.2.2.2.2.2.1 q.2.2.2.2.2.2.2.1 q.2.2.2.2.2.2.2.2.1 q.2.2.2.2.2.2.2.2.2.1 q.2.2.2.2.2.2.2.2.2.2.1 q.2.2.2.2.2.2.2.2.2.2.2.1 q.2.2.2.2.2.2.2.2.2.2.2.2.1 q.2.2.2.2.2.2.2.2.2.2.2.2.2.1 q.2.2.2.2.2.2.2.2.2.2.2.2.2.2.1 q.2.2.2.2.2.2.2.2.2.2.2.2.2.2.2.1 q.2.2.2.2.2.2.2.2.2.2.2.2.2.2.2.2.1 q.2.2.2.2.2.2.2.2.2.2.2.2.2.2.2.2.2.1 q.2.2.2.2.2.2.2.2.2.2.2.2.2.2.2.2.2.2.1 q.2.2.2.2.2.2.2.2.2.2.2.2.2.2.2.2.2.2.2.1 q.2.2.2.2.2.2.2.2.2.2.2.2.2.2.2.2.2.2.2.2.1 q.2.2.2.2.2.2.2.2.2.2.2.2.2.2.2.2.2.2.2.2.2.1 q.2.2.2.2.2.2.2.2.2.2.2.2.2.2.2.2.2.2.2.2.2.2.1 q.2.2.2.2.2.2.2.2.2.2.2.2.2.2.2.2.2.2.2.2.2.2.2.1 q.2.2.2.2.2.2.2.2.2.2.2.2.2.2.2.2.2.2.2.2.2.2.2.2.1 q.2.2.2.2.2.2.2.2.2.2.2.2.2.2.2.2.2.2.2.2.2.2.2.2.2.1 q.2.2.2.2.2.2.2.2.2.2.2.2.2.2.2.2.2.2.2.2.2.2.2.2.2.2.1 q.2.2.2.2.2.2.2.2.2.2.2.2.2.2.2.2.2.2.2.2.2.2.2.2.2.2.2.1 q.2.2.2.2.2.2.2.2.2.2.2.2.2.2.2.2.2.2.2.2.2.2.2.2.2.2.2.2.1 q.2.2.2.2.2.2.2.2.2.2.2.2.2.2.2.2.2.2.2.2.2.2.2.2.2.2.2.2.2.1 q.2.2.2.2.2.2.2.2.2.2.2.2.2.2.2.2.2.2.2.2.2.2.2.2.2.2.2.2.2.2.1 q.2.2.2.2.2.2.2.2.2.2.2.2.2.2.2.2.2.2.2.2.2.2.2.2.2.2.2.2.2.2.2.1 q.2.2.2.2.2.2.2.2.2.2.2.2.2.2.2.2.2.2.2.2.2.2.2.2.2.2.2.2.2.2.2.2.1 q.2.2.2.2.2.2.2.2.2.2.2.2.2.2.2.2.2.2.2.2.2.2.2.2.2.2.2.2.2.2.2.2.2.1 q.2.2.2.2.2.2.2.2.2.2.2.2.2.2.2.2.2.2.2.2.2.2.2.2.2.2.2.2.2.2.2.2.2.2.1 q.2.2.2.2.2.2.2.2.2.2.2.2.2.2.2.2.2.2.2.2.2.2.2.2.2.2.2.2.2.2.2.2.2.2.2.1 q.2.2.2.2.2.2.2.2.2.2.2.2.2.2.2.2.2.2.2.2.2.2.2.2.2.2.2.2.2.2.2.2.2.2.2.2.1 q.2.2.2.2.2.2.2.2.2.2.2.2.2.2.2.2.2.2.2.2.2.2.2.2.2.2.2.2.2.2.2.2.2.2.2.2.2.1 q.2.2.2.2.2.2.2.2.2.2.2.2.2.2.2.2.2.2.2.2.2.2.2.2.2.2.2.2.2.2.2.2.2.2.2.2.2.2.1
@[irreducible] noncomputable def ys : List Value := c0.1
@[irreducible] noncomputable def news' : List (Addr × Obj) := c0.2.1
@[irreducible] noncomputable def D7 : Addr := c0.2.2.1
@[irreducible] noncomputable def z0 : Heap := c0.2.2.2.1
@[irreducible] noncomputable def z2 : Heap := c0.2.2.2.2.1
@[irreducible] noncomputable def tk' : Nat := c0.2.2.2.2.2.1
@[irreducible] noncomputable def rc : Addr := c0.2.2.2.2.2.2.1
@[irreducible] noncomputable def rdd : Addr := c0.2.2.2.2.2.2.2.1
@[irreducible] noncomputable def k1 : Tok := c0.2.2.2.2.2.2.2.2.1
@[irreducible] noncomputable def k2 : Tok := c0.2.2.2.2.2.2.2.2.2.1
@[irreducible] noncomputable def k3 : Tok := c0.2.2.2.2.2.2.2.2.2.2.1
@[irreducible] noncomputable def m1 : Addr := c0.2.2.2.2.2.2.2.2.2.2.2.1
@[irreducible] noncomputable def m2 : Addr := c0.2.2.2.2.2.2.2.2.2.2.2.2.1
@[irreducible] noncomputable def n1 : Nat := c0.2.2.2.2.2.2.2.2.2.2.2.2.2.1
@[irreducible] noncomputable def n2 : Nat := c0.2.2.2.2.2.2.2.2.2.2.2.2.2.2.1
@[irreducible] noncomputable def z4 : Heap := c0.2.2.2.2.2.2.2.2.2.2.2.2.2.2.2.1
@[irreducible] noncomputable def e : Addr := c0.2.2.2.2.2.2.2.2.2.2.2.2.2.2.2.2.1
@[irreducible] noncomputable def it : Addr := c0.2.2.2.2.2.2.2.2.2.2.2.2.2.2.2.2.2.1
@[irreducible] noncomputable def h' : Heap := c0.2.2.2.2.2.2.2.2.2.2.2.2.2.2.2.2.2.2.1
@[irreducible] noncomputable def i : Nat := c0.2.2.2.2.2.2.2.2.2.2.2.2.2.2.2.2.2.2.2.1
@[irreducible] noncomputable def uk : Tok := c0.2.2.2.2.2.2.2.2.2.2.2.2.2.2.2.2.2.2.2.2.1
@[irreducible] noncomputable def h : Heap := c0.2.2.2.2.2.2.2.2.2.2.2.2.2.2.2.2.2.2.2.2.2.1
@[irreducible] noncomputable def tk : Nat := c0.2.2.2.2.2.2.2.2.2.2.2.2.2.2.2.2.2.2.2.2.2.2.1
@[irreducible] noncomputable def e2 : Addr := c0.2.2.2.2.2.2.2.2.2.2.2.2.2.2.2.2.2.2.2.2.2.2.2.1
@[irreducible] noncomputable def it2 : Addr := c0.2.2.2.2.2.2.2.2.2.2.2.2.2.2.2.2.2.2.2.2.2.2.2.2.1
@[irreducible] noncomputable def oe2 : Obj := c0.2.2.2.2.2.2.2.2.2.2.2.2.2.2.2.2.2.2.2.2.2.2.2.2.2.1
@[irreducible] noncomputable def oi2 : Obj := c0.2.2.2.2.2.2.2.2.2.2.2.2.2.2.2.2.2.2.2.2.2.2.2.2.2.2.1
@[irreducible] noncomputable def Q' : Flow → Shared → Prop := c0.2.2.2.2.2.2.2.2.2.2.2.2.2.2.2.2.2.2.2.2.2.2.2.2.2.2.2.1
@[irreducible] noncomputable def E' : Value → Shared → Prop := c0.2.2.2.2.2.2.2.2.2.2.2.2.2.2.2.2.2.2.2.2.2.2.2.2.2.2.2.2.1
@[irreducible] noncomputable def t9 : Tok := c0.2.2.2.2.2.2.2.2.2.2.2.2.2.2.2.2.2.2.2.2.2.2.2.2.2.2.2.2.2.1
@[irreducible] noncomputable def ok9 : Option Value := c0.2.2.2.2.2.2.2.2.2.2.2.2.2.2.2.2.2.2.2.2.2.2.2.2.2.2.2.2.2.2.1
@[irreducible] noncomputable def oc9 : Option Value := c0.2.2.2.2.2.2.2.2.2.2.2.2.2.2.2.2.2.2.2.2.2.2.2.2.2.2.2.2.2.2.2.1
@[irreducible] noncomputable def ob9 : Option Value := c0.2.2.2.2.2.2.2.2.2.2.2.2.2.2.2.2.2.2.2.2.2.2.2.2.2.2.2.2.2.2.2.2.1
@[irreducible] noncomputable def c : Cmd := c0.2.2.2.2.2.2.2.2.2.2.2.2.2.2.2.2.2.2.2.2.2.2.2.2.2.2.2.2.2.2.2.2.2.1
@[irreducible] noncomputable def x : Addr := c0.2.2.2.2.2.2.2.2.2.2.2.2.2.2.2.2.2.2.2.2.2.2.2.2.2.2.2.2.2.2.2.2.2.2.1
@[irreducible] noncomputable def t1 : Tok := c0.2.2.2.2.2.2.2.2.2.2.2.2.2.2.2.2.2.2.2.2.2.2.2.2.2.2.2.2.2.2.2.2.2.2.2.1
@[irreducible] noncomputable def t2 : Tok := c0.2.2.2.2.2.2.2.2.2.2.2.2.2.2.2.2.2.2.2.2.2.2.2.2.2.2.2.2.2.2.2.2.2.2.2.2.1
@[irreducible] noncomputable def t3 : Tok := c0.2.2.2.2.2.2.2.2.2.2.2.2.2.2.2.2.2.2.2.2.2.2.2.2.2.2.2.2.2.2.2.2.2.2.2.2.2.1
@[irreducible] noncomputable def kk : Nat := c0.2.2.2.2.2.2.2.2.2.2.2.2.2.2.2.2.2.2.2.2.2.2.2.2.2.2.2.2.2.2.2.2.2.2.2.2.2.2.1
theorem main : (skmain_sb1.1.1) ys news' D7 z0 z2 tk' rc rdd k1 k2 k3 m1 m2 n1 n2 z4 e it h' i uk h tk e2 it2 oe2 oi2 Q' E' t9 ok9 oc9 ob9 c x t1 t2 t3 kk := by
  intro hP_b hn hcl hok hwl hwk hpk hrw hpure B F XB TB D hk hd hu hret X T B1 X1 T1 hlc hrel hlw D1 hvl hwvl hr hyl o1 hst F3 N3 he hit z5 z6 hstE he0 hi0 hei hws hoct qlc hS hnext hbrk hret' N' hne hc hx0 hv F'
  have hokc := hok c (List.mem_of_getElem? hc)
  have hcle := crow_le hokc hn
  have hnl := lawNames_le hokc.2.2
  have h1l := hokc.1
  have h2l := hokc.2.1
  have ho := hoct i
  obtain ⟨XX, hXX⟩ : ∃ XX : List UInt8, XX = (if i = 0 then [0, 32] ++ joinL [32] words else []) := ⟨_, rfl⟩
  have hXl : XX.length ≤ 62 := by
    rw [hXX]; split
    · simp only [List.length_append, List.length_cons, List.length_nil]; omega
    · exact Nat.zero_le _
  refine wpAny_execs_cons ?_
  refine cut_one F' N' (Str.ofString "behind") (fun tb => .bytes XX.toArray tb) ?_ ?_
  · intro R hR
    k_extra "k_steps"
    · have hi0' : i = 0 := by omega
      k_extra "ktr_step"
      k_extra "k_steps"
      refine CompGo.rel (xs := words) (fun wd y => BytV wd y) (IterOf.rel hrw (iter_list (ol := listOf wvs.toArray nw) rfl (F'.keep _ _ hlw) rfl rfl)) F' N' (fun p hp => .inl (by rw [List.mem_singleton.mp hp]; exact hlw)) (by rw [sizeLine_eq]; omega) ?_ ?_ (fun x => x.elim)
      · intro wd v C oC m₂ hwd hz0 hn1 hx1 I oI D ys h tk Q3 E3 F' N' off ne hret3 _
        obtain ⟨uw, rfl⟩ := hz0
        have hwdl := lawWords_le (hwk wd hwd)
        k_extra "k_steps"
        k_dflt (refine comp_exprQ (exc := False) (outer := outer) (by k_asm) (fun x => x.elim) rfl (fun x => x.elim) (by rfl) (by decide) (by rfl) (by decide) (by rfl) ?_)
        k_extra "k_steps"
        refine CompGo.rel (xs := tx wd) (fun c y => ∃ t, y = .int (c : Int) t) (iter_str rfl) F' N' (List.forall_mem_nil _) (by rw [sizeLine_eq]; simp only [tx, List.length_map]; omega) ?_ ?_ (fun x => x.elim)
        · intro c5 v5 C5 oC5 m5 hc5 hz0 hn5 hx5 I5 oI5 D5 ys5 h5 tk5 Q5 E5 F' N' off5 ne5 hret5 _
          obtain ⟨u5, rfl⟩ := hz0
          k_extra "k_steps"
          exact hret5 _ _ _ F' N' ⟨_, rfl⟩
        · intro ys5 hr5 D5 h5 tk5 F' N' o5
          have hr6 : Rel2 OctV wd ys5 := Rel2.unmap (fun c : UInt8 => c.toNat) hr5
          k_extra "k_steps"
          refine bytes_of_list (by k_asm) (by k_asm) rfl (News.isList (by k_asm) (by k_mem)) hr6 (by omega) fun h' t' k' F' N' => ?_
          k_extra "k_steps"
          exact hret3 _ _ _ F' (news_weak N' fun p hp => List.mem_cons_of_mem _ hp) ⟨_, rfl⟩
      · intro ys hr10 D10 h tk F' N' o10
        k_extra "k_steps"
        refine bjoin_L (sep := [32]) hr10 (News.isList (by k_asm) (by k_mem)) (by
          have e2 := sum_le (B := 13) words fun x hx => lawWords_le (hwk x hx)
          have e3 : ([32] : List UInt8).length = 1 := rfl
          rw [e3]; omega) fun t' k' => ?_
        k_extra "k_steps"
        rename_i F5 N5
        exact hR _ _ _ (by rw [hXX, if_pos hi0']; exact F5) (news_weak N5 fun p hp => (by simp only [List.cons_append, List.nil_append, List.mem_cons] at hp ⊢; rcases hp with h | h | h <;> simp [h]))
    · have hi0' : i ≠ 0 := by omega
      rename_i F5 N5
      exact hR _ _ _ (by rw [hXX, if_neg hi0']; exact F5) N5
  · intro h' tk' tb F' N'
    dsimp only
    k_extra "k_steps"
    refine Spec.use (law_row_spec x t1 t2 t3 kk c (by omega) (by omega) (by omega)) (by k_asm) (by k_asm) (by k_asm) (by k_asm) (by k_asm) rfl (by k_extra "ktr_room") (by k_extra "ktr_room") (fr_stays (by k_asm) _ _ hx0) ?_ (fun x => x.elim)
    rintro r tl h' tk' F' N' hsep2 hst2 ⟨rfl, u5, rfl⟩
    k_extra "k_steps"
    refine Spec.use (law_line_spec (crow c ++ XX ++ [10]) _ (by simp only [List.length_append, List.length_cons, List.length_nil]; omega)) (by k_asm) (by k_asm) (by k_asm) (by k_asm) (by k_asm) rfl (by k_extra "ktr_room") (by k_extra "ktr_room") trivial ?_ (fun x => x.elim)
    rintro r tl h' tk' F' N' hsep hst hst'
    obtain ⟨rfl, u6, rfl⟩ := hst'
    have hll : (lineL (crow c ++ XX ++ [10])).length ≤ 400 := by simp only [lineL, figs, List.length_append, List.length_cons, List.length_nil]; omega
    k_extra "k_steps"
    rename_i F5 N5
    refine' hnext .next _ _ _ _ (.inl rfl) F5 ?ln1 hne ?st1 ⟨rfl, ?tk1, some (.int (i : Int) uk), some (.ref x), ?ob1, funext ?fz1⟩
    case fz1 =>
      intro z
      (try dsimp only [ovr, upd])
      by_cases e1 : z = Str.ofString "octets"
      · subst e1
        have er : (rowsL (joinL [32] words) (cmds.take i)).flatten ++ lineL (crow c ++ XX ++ [10]) = (rowsL (joinL [32] words) (cmds.take (i + 1))).flatten := by
          rw [rowsL_take hc, List.flatten_append, hXX]; simp
        exact congrArg (fun b : List UInt8 => some (Value.bytes b.toArray _)) er
      · by_cases e2 : z = Str.ofString "behind"
        · subst e2; rfl
        · by_cases e3 : z = Str.ofString "command"
          · subst e3; rfl
          · by_cases e4 : z = Str.ofString "k"
            · subst e4; rfl
            · simp only [e1, e2, e3, e4, if_false]
    case ln1 => exact N5
    case st1 => exact fun p hp => by rw [List.mem_singleton.mp hp]; exact F5.keep _ _ hlc
theorem all : ∀ a0 a1 a2 a3 a4 a5 a6 a7 a8 a9 a10 a11 a12 a13 a14 a15 a16 a17 a18 a19 a20 a21 a22 a23 a24 a25 a26 a27 a28 a29 a30 a31 a32 a33 a34 a35 a36 a37 a38, (skmain_sb1.1.1) a0 a1 a2 a3 a4 a5 a6 a7 a8 a9 a10 a11 a12 a13 a14 a15 a16 a17 a18 a19 a20 a21 a22 a23 a24 a25 a26 a27 a28 a29 a30 a31 a32 a33 a34 a35 a36 a37 a38 := by
  have q1 : (fun q : (List Value) × (List (Addr × Obj)) × (Addr) × (Heap) × (Heap) × (Nat) × (Addr) × (Addr) × (Tok) × (Tok) × (Tok) × (Addr) × (Addr) × (Nat) × (Nat) × (Heap) × (Addr) × (Addr) × (Heap) × (Nat) × (Tok) × (Heap) × (Nat) × (Addr) × (Addr) × (Obj) × (Obj) × (Flow → Shared → Prop) × (Value → Shared → Prop) × (Tok) × (Option Value) × (Option Value) × (Option Value) × (Cmd) × (Addr) × (Tok) × (Tok) × (Tok) × (Nat) × Unit => (skmain_sb1.1.1) q.1 q.2.1 q.2.2.1 q.2.2.2.1 q.2.2.2.2.1 q.2.2.2.2.2.1 q.2.2.2.2.2.2.1 q.2.2.2.2.2.2.2.1 q.2.2.2.2.2.2.2.2.1 q.2.2.2.2.2.2.2.2.2.1 q.2.2.2.2.2.2.2.2.2.2.1 q.2.2.2.2.2.2.2.2.2.2.2.1 q.2.2.2.2.2.2.2.2.2.2.2.2.1 q.2.2.2.2.2.2.2.2.2.2.2.2.2.1 q.2.2.2.2.2.2.2.2.2.2.2.2.2.2.1 q.2.2.2.2.2.2.2.2.2.2.2.2.2.2.2.1 q.2.2.2.2.2.2.2.2.2.2.2.2.2.2.2.2.1 q.2.2.2.2.2.2.2.2.2.2.2.2.2.2.2.2.2.1 q.2.2.2.2.2.2.2.2.2.2.2.2.2.2.2.2.2.2.1 q.2.2.2.2.2.2.2.2.2.2.2.2.2.2.2.2.2.2.2.1 q.2.2.2.2.2.2.2.2.2.2.2.2.2.2.2.2.2.2.2.2.1 q.2.2.2.2.2.2.2.2.2.2.2.2.2.2.2.2.2.2.2.2.2.1 q.2.2.2.2.2.2.2.2.2.2.2.2.2.2.2.2.2.2.2.2.2.2.1 q.2.2.2.2.2.2.2.2.2.2.2.2.2.2.2.2.2.2.2.2.2.2.2.1 q.2.2.2.2.2.2.2.2.2.2.2.2.2.2.2.2.2.2.2.2.2.2.2.2.1 q.2.2.2.2.2.2.2.2.2.2.2.2.2.2.2.2.2.2.2.2.2.2.2.2.2.1 q.2.2.2.2.2.2.2.2.2.2.2.2.2.2.2.2.2.2.2.2.2.2.2.2.2.2.1 q.2.2.2.2.2.2.2.2.2.2.2.2.2.2.2.2.2.2.2.2.2.2.2.2.2.2.2.1 q.2.2.2.2.2.2.2.2.2.2.2.2.2.2.2.2.2.2.2.2.2.2.2.2.2.2.2.2.1 q.2.2.2.2.2.2.2.2.2.2.2.2.2.2.2.2.2.2.2.2.2.2.2.2.2.2.2.2.2.1 q.2.2.2.2.2.2.2.2.2.2.2.2.2.2.2.2.2.2.2.2.2.2.2.2.2.2.2.2.2.2.1 q.2.2.2.2.2.2.2.2.2.2.2.2.2.2.2.2.2.2.2.2.2.2.2.2.2.2.2.2.2.2.2.1 q.2.2.2.2.2.2.2.2.2.2.2.2.2.2.2.2.2.2.2.2.2.2.2.2.2.2.2.2.2.2.2.2.1 q.2.2.2.2.2.2.2.2.2.2.2.2.2.2.2.2.2.2.2.2.2.2.2.2.2.2.2.2.2.2.2.2.2.1 q.2.2.2.2.2.2.2.2.2.2.2.2.2.2.2.2.2.2.2.2.2.2.2.2.2.2.2.2.2.2.2.2.2.2.1 q.2.2.2.2.2.2.2.2.2.2.2.2.2.2.2.2.2.2.2.2.2.2.2.2.2.2.2.2.2.2.2.2.2.2.2.1 q.2.2.2.2.2.2.2.2.2.2.2.2.2.2.2.2.2.2.2.2.2.2.2.2.2.2.2.2.2.2.2.2.2.2.2.2.1 q.2.2.2.2.2.2.2.2.2.2.2.2.2.2.2.2.2.2.2.2.2.2.2.2.2.2.2.2.2.2.2.2.2.2.2.2.2.1 q.2.2.2.2.2.2.2.2.2.2.2.2.2.2.2.2.2.2.2.2.2.2.2.2.2.2.2.2.2.2.2.2.2.2.2.2.2.2.1) (pick ⟨⟨default, default, default, default, default, default, default, default, default, default, default, default, default, default, default, default, default, default, default, default, default, default, default, default, default, default, default, default, default, default, default, default, default, default, default, default, default, default, default, ()⟩⟩ fun q => (skmain_sb1.1.1) q.1 q.2.1 q.2.2.1 q.2.2.2.1 q.2.2.2.2.1 q.2.2.2.2.2.1 q.2.2.2.2.2.2.1 q.2.2.2.2.2.2.2.1 q.2.2.2.2.2.2.2.2.1 q.2.2.2.2.2.2.2.2.2.1 q.2.2.2.2.2.2.2.2.2.2.1 q.2.2.2.2.2.2.2.2.2.2.2.1 q.2.2.2.2.2.2.2.2.2.2.2.2.1 q.2.2.2.2.2.2.2.2.2.2.2.2.2.1 q.2.2.2.2.2.2.2.2.2.2.2.2.2.2.1 q.2.2.2.2.2.2.2.2.2.2.2.2.2.2.2.1 q.2.2.2.2.2.2.2.2.2.2.2.2.2.2.2.2.1 q.2.2.2.2.2.2.2.2.2.2.2.2.2.2.2.2.2.1 q.2.2.2.2.2.2.2.2.2.2.2.2.2.2.2.2.2.2.1 q.2.2.2.2.2.2.2.2.2.2.2.2.2.2.2.2.2.2.2.1 q.2.2.2.2.2.2.2.2.2.2.2.2.2.2.2.2.2.2.2.2.1 q.2.2.2.2.2.2.2.2.2.2.2.2.2.2.2.2.2.2.2.2.2.1 q.2.2.2.2.2.2.2.2.2.2.2.2.2.2.2.2.2.2.2.2.2.2.1 q.2.2.2.2.2.2.2.2.2.2.2.2.2.2.2.2.2.2.2.2.2.2.2.1 q.2.2.2.2.2.2.2.2.2.2.2.2.2.2.2.2.2.2.2.2.2.2.2.2.1 q.2.2.2.2.2.2.2.2.2.2.2.2.2.2.2.2.2.2.2.2.2.2.2.2.2.1 q.2.2.2.2.2.2.2.2.2.2.2.2.2.2.2.2.2.2.2.2.2.2.2.2.2.2.1 q.2.2.2.2.2.2.2.2.2.2.2.2.2.2.2.2.2.2.2.2.2.2.2.2.2.2.2.1 q.2.2.2.2.2.2.2.2.2.2.2.2.2.2.2.2.2.2.2.2.2.2.2.2.2.2.2.2.1 q.2.2.2.2.2.2.2.2.2.2.2.2.2.2.2.2.2.2.2.2.2.2.2.2.2.2.2.2.2.1 q.2.2.2.2.2.2.2.2.2.2.2.2.2.2.2.2.2.2.2.2.2.2.2.2.2.2.2.2.2.2.1 q.2.2.2.2.2.2.2.2.2.2.2.2.2.2.2.2.2.2.2.2.2.2.2.2.2.2.2.2.2.2.2.1 q.2.2.2.2.2.2.2.2.2.2.2.2.2.2.2.2.2.2.2.2.2.2.2.2.2.2.2.2.2.2.2.2.1 q.2.2.2.2.2.2.2.2.2.2.2.2.2.2.2.2.2.2.2.2.2.2.2.2.2.2.2.2.2.2.2.2.2.1 q.2.2.2.2.2.2.2.2.2.2.2.2.2.2.2.2.2.2.2.2.2.2.2.2.2.2.2.2.2.2.2.2.2.2.1 q.2.2.2.2.2.2.2.2.2.2.2.2.2.2.2.2.2.2.2.2.2.2.2.2.2.2.2.2.2.2.2.2.2.2.2.1 q.2.2.2.2.2.2.2.2.2.2.2.2.2.2.2.2.2.2.2.2.2.2.2.2.2.2.2.2.2.2.2.2.2.2.2.2.1 q.2.2.2.2.2.2.2.2.2.2.2.2.2.2.2.2.2.2.2.2.2.2.2.2.2.2.2.2.2.2.2.2.2.2.2.2.2.1 q.2.2.2.2.2.2.2.2.2.2.2.2.2.2.2.2.2.2.2.2.2.2.2.2.2.2.2.2.2.2.2.2.2.2.2.2.2.2.1) := by with_unfolding_all exact main
  exact fun a0 a1 a2 a3 a4 a5 a6 a7 a8 a9 a10 a11 a12 a13 a14 a15 a16 a17 a18 a19 a20 a21 a22 a23 a24 a25 a26 a27 a28 a29 a30 a31 a32 a33 a34 a35 a36 a37 a38 => pick_spec (P := fun q : (List Value) × (List (Addr × Obj)) × (Addr) × (Heap) × (Heap) × (Nat) × (Addr) × (Addr) × (Tok) × (Tok) × (Tok) × (Addr) × (Addr) × (Nat) × (Nat) × (Heap) × (Addr) × (Addr) × (Heap) × (Nat) × (Tok) × (Heap) × (Nat) × (Addr) × (Addr) × (Obj) × (Obj) × (Flow → Shared → Prop) × (Value → Shared → Prop) × (Tok) × (Option Value) × (Option Value) × (Option Value) × (Cmd) × (Addr) × (Tok) × (Tok) × (Tok) × (Nat) × Unit => (skmain_sb1.1.1) q.1 q.2.1 q.2.2.1 q.2.2.2.1 q.2.2.2.2.1 q.2.2.2.2.2.1 q.2.2.2.2.2.2.1 q.2.2.2.2.2.2.2.1 q.2.2.2.2.2.2.2.2.1 q.2.2.2.2.2.2.2.2.2.1 q.2.2.2.2.2.2.2.2.2.2.1 q.2.2.2.2.2.2.2.2.2.2.2.1 q.2.2.2.2.2.2.2.2.2.2.2.2.1 q.2.2.2.2.2.2.2.2.2.2.2.2.2.1 q.2.2.2.2.2.2.2.2.2.2.2.2.2.2.1 q.2.2.2.2.2.2.2.2.2.2.2.2.2.2.2.1 q.2.2.2.2.2.2.2.2.2.2.2.2.2.2.2.2.1 q.2.2.2.2.2.2.2.2.2.2.2.2.2.2.2.2.2.1 q.2.2.2.2.2.2.2.2.2.2.2.2.2.2.2.2.2.2.1 q.2.2.2.2.2.2.2.2.2.2.2.2.2.2.2.2.2.2.2.1 q.2.2.2.2.2.2.2.2.2.2.2.2.2.2.2.2.2.2.2.2.1 q.2.2.2.2.2.2.2.2.2.2.2.2.2.2.2.2.2.2.2.2.2.1 q.2.2.2.2.2.2.2.2.2.2.2.2.2.2.2.2.2.2.2.2.2.2.1 q.2.2.2.2.2.2.2.2.2.2.2.2.2.2.2.2.2.2.2.2.2.2.2.1 q.2.2.2.2.2.2.2.2.2.2.2.2.2.2.2.2.2.2.2.2.2.2.2.2.1 q.2.2.2.2.2.2.2.2.2.2.2.2.2.2.2.2.2.2.2.2.2.2.2.2.2.1 q.2.2.2.2.2.2.2.2.2.2.2.2.2.2.2.2.2.2.2.2.2.2.2.2.2.2.1 q.2.2.2.2.2.2.2.2.2.2.2.2.2.2.2.2.2.2.2.2.2.2.2.2.2.2.2.1 q.2.2.2.2.2.2.2.2.2.2.2.2.2.2.2.2.2.2.2.2.2.2.2.2.2.2.2.2.1 q.2.2.2.2.2.2.2.2.2.2.2.2.2.2.2.2.2.2.2.2.2.2.2.2.2.2.2.2.2.1 q.2.2.2.2.2.2.2.2.2.2.2.2.2.2.2.2.2.2.2.2.2.2.2.2.2.2.2.2.2.2.1 q.2.2.2.2.2.2.2.2.2.2.2.2.2.2.2.2.2.2.2.2.2.2.2.2.2.2.2.2.2.2.2.1 q.2.2.2.2.2.2.2.2.2.2.2.2.2.2.2.2.2.2.2.2.2.2.2.2.2.2.2.2.2.2.2.2.1 q.2.2.2.2.2.2.2.2.2.2.2.2.2.2.2.2.2.2.2.2.2.2.2.2.2.2.2.2.2.2.2.2.2.1 q.2.2.2.2.2.2.2.2.2.2.2.2.2.2.2.2.2.2.2.2.2.2.2.2.2.2.2.2.2.2.2.2.2.2.1 q.2.2.2.2.2.2.2.2.2.2.2.2.2.2.2.2.2.2.2.2.2.2.2.2.2.2.2.2.2.2.2.2.2.2.2.1 q.2.2.2.2.2.2.2.2.2.2.2.2.2.2.2.2.2.2.2.2.2.2.2.2.2.2.2.2.2.2.2.2.2.2.2.2.1 q.2.2.2.2.2.2.2.2.2.2.2.2.2.2.2.2.2.2.2.2.2.2.2.2.2.2.2.2.2.2.2.2.2.2.2.2.2.1 q.2.2.2.2.2.2.2.2.2.2.2.2.2.2.2.2.2.2.2.2.2.2.2.2.2.2.2.2.2.2.2.2.2.2.2.2.2.2.1) (ne := ⟨⟨default, default, default, default, default, default, default, default, default, default, default, default, default, default, default, default, default, default, default, default, default, default, default, default, default, default, default, default, default, default, default, default, default, default, default, default, default, default, default, ()⟩⟩) q1 ⟨a0, a1, a2, a3, a4, a5, a6, a7, a8, a9, a10, a11, a12, a13, a14, a15, a16, a17, a18, a19, a20, a21, a22, a23, a24, a25, a26, a27, a28, a29, a30, a31, a32, a33, a34, a35, a36, a37, a38, ()⟩
end skmain_a
namespace skmain_b
noncomputable def c0 : (List Value) × (List (Addr × Obj)) × (Addr) × (Heap) × (Heap) × (Nat) × (Addr) × (Addr) × (Tok) × (Tok) × (Tok) × (Addr) × (Addr) × (Nat) × (Nat) × (Heap) × (Addr) × (Addr) × (Heap) × (Heap) × (Nat) × (Tok) × (Option Value) × (Option Value) × (Option Value) × Unit := pick ⟨⟨default, default, default, default, default, default, default, default, default, default, default, default, default, default, default, default, default, default, default, default, default, default, default, default, default, ()⟩⟩ fun q => (skmain_sb1.1.2) q.1 q.2.1 q.2.2.1 q.2.2.2.1 q.2.2.2.2.1 q.2.2.2.2.2.1 q.2.2.2.2.2.2.1 q.2.2.2.2.2.2.2.1 q.2.2.2.2.2.2.2.2.1 q.2.2.2.2.2.2.2.2.2.1 q.2.2.2.2.2.2.2.2.2.2.1 q.2.2.2.2.2.2.2.2.2.2.2.1 q.2.2.2.2.2.2.2.2.2.2.2.2.1 q.2.2.2.2.2.2.2.2.2.2.2.2.2.1 q.2.2.2.2.2.2.2.2.2.2.2.2.2.2.1 q.2.2.2.2.2.2.2.2.2.2.2.2.2.2.2.1 q.2.2.2.2.2.2.2.2.2.2.2.2.2.2.2.2.1 q.2.2.2.2.2.2.2.2.2.2.2.2.2.2.2.2.2.1 q.2.2.2.2.2.2.2.2.2.2.2.2.2.2.2.2.2.2.1 q.2.2.2.2.2.2.2.2.2.2.2.2.2.2.2.2.2.2.2.1 q.2.2.2.2.2.2.2.2.2.2.2.2.2.2.2.2.2.2.2.2.1 q.2.2.2.2.2.2.2.2.2.2.2.2.2.2.2.2.2.2.2.2.2.1 q.2.2.2.2.2.2.2.2.2.2.2.2.2.2.2.2.2.2.2.2.2.2.1 q.2.2.2.2.2.2.2.2.2.2.2.2.2.2.2.2.2.2.2.2.2.2.2.1 q.2.2.2.2.2.2.2.2.2.2.2.2.2.2.2.2.2.2.2.2.2.2.2.2.1
@[irreducible] noncomputable def ys : List Value := c0.1
@[irreducible] noncomputable def news' : List (Addr × Obj) := c0.2.1
@[irreducible] noncomputable def D7 : Addr := c0.2.2.1
@[irreducible] noncomputable def h : Heap := c0.2.2.2.1
@[irreducible] noncomputable def z0 : Heap := c0.2.2.2.2.1
@[irreducible] noncomputable def z1 : Nat := c0.2.2.2.2.2.1
@[irreducible] noncomputable def rc : Addr := c0.2.2.2.2.2.2.1
@[irreducible] noncomputable def rdd : Addr := c0.2.2.2.2.2.2.2.1
@[irreducible] noncomputable def k1 : Tok := c0.2.2.2.2.2.2.2.2.1
@[irreducible] noncomputable def k2 : Tok := c0.2.2.2.2.2.2.2.2.2.1
@[irreducible] noncomputable def k3 : Tok := c0.2.2.2.2.2.2.2.2.2.2.1
@[irreducible] noncomputable def m1 : Addr := c0.2.2.2.2.2.2.2.2.2.2.2.1
@[irreducible] noncomputable def m2 : Addr := c0.2.2.2.2.2.2.2.2.2.2.2.2.1
@[irreducible] noncomputable def n1 : Nat := c0.2.2.2.2.2.2.2.2.2.2.2.2.2.1
@[irreducible] noncomputable def n2 : Nat := c0.2.2.2.2.2.2.2.2.2.2.2.2.2.2.1
@[irreducible] noncomputable def z3 : Heap := c0.2.2.2.2.2.2.2.2.2.2.2.2.2.2.2.1
@[irreducible] noncomputable def e : Addr := c0.2.2.2.2.2.2.2.2.2.2.2.2.2.2.2.2.1
@[irreducible] noncomputable def it : Addr := c0.2.2.2.2.2.2.2.2.2.2.2.2.2.2.2.2.2.1
@[irreducible] noncomputable def z4 : Heap := c0.2.2.2.2.2.2.2.2.2.2.2.2.2.2.2.2.2.2.1
@[irreducible] noncomputable def h' : Heap := c0.2.2.2.2.2.2.2.2.2.2.2.2.2.2.2.2.2.2.2.1
@[irreducible] noncomputable def tk' : Nat := c0.2.2.2.2.2.2.2.2.2.2.2.2.2.2.2.2.2.2.2.2.1
@[irreducible] noncomputable def t9 : Tok := c0.2.2.2.2.2.2.2.2.2.2.2.2.2.2.2.2.2.2.2.2.2.1
@[irreducible] noncomputable def ok9 : Option Value := c0.2.2.2.2.2.2.2.2.2.2.2.2.2.2.2.2.2.2.2.2.2.2.1
@[irreducible] noncomputable def oc9 : Option Value := c0.2.2.2.2.2.2.2.2.2.2.2.2.2.2.2.2.2.2.2.2.2.2.2.1
@[irreducible] noncomputable def ob9 : Option Value := c0.2.2.2.2.2.2.2.2.2.2.2.2.2.2.2.2.2.2.2.2.2.2.2.2.1
theorem main : (skmain_sb1.1.2) ys news' D7 h z0 z1 rc rdd k1 k2 k3 m1 m2 n1 n2 z3 e it z4 h' tk' t9 ok9 oc9 ob9 := by
  intro hn hcl hok hwl hwk hpk hrw hpure B F XB TB D hk hd hu hret X T B1 X1 T1 hlc hrel hlw D1 hvl hwvl hr hyl o1 hst F3 N3 he hit z5 z6 hstE he0 hi0 hei hws hoct qlc hS F' N' et ho
  k_extra "k_steps"
  rename_i le hle F6 N6 l6
  refine ne_empty (xs := vs) ⟨listOf vs.toArray nc, fr_stays (by k_asm) _ _ hlc, rfl, nc, rfl⟩ (News.isList (items := #[]) N6 (by k_mem)) (by k_extra "ktr_room") ?_
  have hcond : (!vs.isEmpty) = decide (cmds ≠ []) := cond_ne hvl
  have hsmall : small cmds := ⟨by omega, fun c hc => by
    have h := hok c hc
    have := lawNames_le h.2.2
    have := h.1
    have := h.2.1
    omega⟩
  have hwsm : words.length ≤ 100 ∧ ∀ x ∈ words, x.length ≤ 100 := ⟨by omega, fun x hx => by have := lawWords_le (hwk x hx); omega⟩
  cases hcs : (!vs.isEmpty) with
  | true =>
    have hcn : cmds ≠ [] := by rw [hcs] at hcond; simpa using hcond.symm
    k_extra "k_steps"
    dsimp only
    rename_i F7 N7
    have hNr := fun p (hp : p ∈ (m2, listOf wvs.toArray n2) :: (m1, listOf ys.toArray n1) :: (rc, instObj 219 rdd) :: (rdd, reqD w k1 k2 k3 (Value.ref m1) (Value.ref m2) (Value.bytes pk.toArray up)) :: news') => (N7 p (by
      simp only [List.mem_cons] at hp ⊢
      rcases hp with h | h | h | h | h <;> simp [h])).1
    refine Spec.use (req_octets_spec rc rdd m1 m2 n1 n2 k1 k2 k3 up cmds words pk ys wvs hsmall hwsm (by omega) (Rel2.map tx hrw)) (by k_asm) (by k_asm) (by k_asm) (by k_asm) (by k_asm) rfl (by k_extra "ktr_room") (by k_extra "ktr_room") ⟨fun p hp => hNr p (by
      simp only [List.mem_cons, List.not_mem_nil, or_false] at hp ⊢
      rcases hp with h | h | h | h <;> simp [h]), hr.mono fun c v => by
        rintro ⟨a1, a2, a3, a4, a5, a6, a7, a8, rfl, b1, b2⟩
        exact ⟨a1, a2, a3, a4, a5, a6, a7, a8, rfl, hNr (a1, _) (in4 b1), hNr (a2, _) (in4 b2)⟩⟩ ?_ (fun x => x.elim)
    rintro r tl h' tk' F' N' hsep5 hst5 ⟨rfl, u7, rfl⟩
    dsimp only [List.nil_append] at N'
    k_extra "k_steps"
    · refine USpec.use (law_request_spec ((rowsL (joinL [32] words) cmds).flatten ++ [48, 48, 48, 48] ++ pk) _ _ n (by simp only [List.length_append, List.length_cons, List.length_nil]; omega) (by omega)) (by k_asm) (by k_asm) XB N' TB D1 rfl (by k_extra "ktr_room") (by k_extra "ktr_room") trivial ?_
      rintro r tl h' tk' g2 Tn2 B3 F' N' X3 T3 D3 hsep4 Ef hreq
      rw [hpure, if_neg hcn] at hreq
      have hreq' : ReqT (cmds, words, pk) r tl := hreq
      clear hreq
      have hlc2 := F'.keep _ _ (turn_keep D1 Tn2 hlc (fun _ _ z => by cases z))
      have hlw2 := F'.keep _ _ (turn_keep D1 Tn2 hlw (fun _ _ z => by cases z))
      have hrel2 := hrel.mono fun _ _ => CmdH.mono (h' := h') fun b o e hd' _ => F'.keep _ _ (turn_keep D1 Tn2 e hd')
      k_extra "k_steps"
      refine (eq_req hreq' (fun p hp => (N' p (List.mem_append_left _ hp)).1) (N' _ (List.mem_append_right _ List.mem_cons_self)).1 hlc2 hlw2 hrel2 hrw (by k_extra "ktr_room")).1 ?_
      k_extra "k_steps"
      exact hret _ [] _ _ (eff_ret Tn2 F') (List.forall_mem_nil _) ⟨rfl, rfl⟩
    · exfalso
      have h : ((rowsL (joinL [32] words) cmds).flatten ++ [48, 48, 48, 48] ++ pk == (rowsL (joinL [32] words) cmds).flatten ++ [48, 48, 48, 48] ++ pk) = false := by assumption
      rw [beq_self_eq_true] at h
      cases h
  | false =>
    have hcn : cmds = [] := by rw [hcs] at hcond; simpa using hcond.symm
    k_extra "k_steps"
    dsimp only
    rename_i F7 N7
    have hNr := fun p (hp : p ∈ (m2, listOf wvs.toArray n2) :: (m1, listOf ys.toArray n1) :: (rc, instObj 219 rdd) :: (rdd, reqD w k1 k2 k3 (Value.ref m1) (Value.ref m2) (Value.bytes pk.toArray up)) :: news') => (N7 p (by
      simp only [List.mem_cons] at hp ⊢
      rcases hp with h | h | h | h | h <;> simp [h])).1
    refine Spec.use (req_octets_spec rc rdd m1 m2 n1 n2 k1 k2 k3 up cmds words pk ys wvs hsmall hwsm (by omega) (Rel2.map tx hrw)) (by k_asm) (by k_asm) (by k_asm) (by k_asm) (by k_asm) rfl (by k_extra "ktr_room") (by k_extra "ktr_room") ⟨fun p hp => hNr p (by
      simp only [List.mem_cons, List.not_mem_nil, or_false] at hp ⊢
      rcases hp with h | h | h | h <;> simp [h]), hr.mono fun c v => by
        rintro ⟨a1, a2, a3, a4, a5, a6, a7, a8, rfl, b1, b2⟩
        exact ⟨a1, a2, a3, a4, a5, a6, a7, a8, rfl, hNr (a1, _) (in4 b1), hNr (a2, _) (in4 b2)⟩⟩ ?_ (fun x => x.elim)
    rintro r tl h' tk' F' N' hsep5 hst5 ⟨rfl, u7, rfl⟩
    dsimp only [List.nil_append] at N'
    k_extra "k_steps"
    · refine USpec.use (law_request_spec ((rowsL (joinL [32] words) cmds).flatten ++ [48, 48, 48, 48] ++ pk) _ _ n (by simp only [List.length_append, List.length_cons, List.length_nil]; omega) (by omega)) (by k_asm) (by k_asm) XB N' TB D1 rfl (by k_extra "ktr_room") (by k_extra "ktr_room") trivial ?_
      rintro r tl h' tk' g2 Tn2 B3 F' N' X3 T3 D3 hsep4 Ef hreq
      rw [hpure, if_pos hcn] at hreq
      have hreq' : ReqT (cmds, [], pk) r tl := hreq
      clear hreq
      have hlc2 := F'.keep _ _ (turn_keep D1 Tn2 hlc (fun _ _ z => by cases z))
      have hlw2 := F'.keep _ _ (turn_keep D1 Tn2 hlw (fun _ _ z => by cases z))
      have hrel2 := hrel.mono fun _ _ => CmdH.mono (h' := h') fun b o e hd' _ => F'.keep _ _ (turn_keep D1 Tn2 e hd')
      k_extra "k_steps"
      refine (eq_req hreq' (fun p hp => (N' p (List.mem_append_left _ hp)).1) (N' _ (List.mem_append_right _ List.mem_cons_self)).1 hlc2 (N' _ (List.mem_append_right _ (List.mem_cons_of_mem _ List.mem_cons_self))).1 hrel2 (by exact (trivial : Rel2 (fun wd v => TxtV (tx wd) v) ([] : List (List UInt8)) [])) (by k_extra "ktr_room")).1 ?_
      k_extra "k_steps"
      exact hret _ [] _ _ (eff_ret Tn2 F') (List.forall_mem_nil _) ⟨rfl, rfl⟩
    · exfalso
      have h : ((rowsL (joinL [32] words) cmds).flatten ++ [48, 48, 48, 48] ++ pk == (rowsL (joinL [32] words) cmds).flatten ++ [48, 48, 48, 48] ++ pk) = false := by assumption
      rw [beq_self_eq_true] at h
      cases h
theorem all : ∀ a0 a1 a2 a3 a4 a5 a6 a7 a8 a9 a10 a11 a12 a13 a14 a15 a16 a17 a18 a19 a20 a21 a22 a23 a24, (skmain_sb1.1.2) a0 a1 a2 a3 a4 a5 a6 a7 a8 a9 a10 a11 a12 a13 a14 a15 a16 a17 a18 a19 a20 a21 a22 a23 a24 := by
  have q1 : (fun q : (List Value) × (List (Addr × Obj)) × (Addr) × (Heap) × (Heap) × (Nat) × (Addr) × (Addr) × (Tok) × (Tok) × (Tok) × (Addr) × (Addr) × (Nat) × (Nat) × (Heap) × (Addr) × (Addr) × (Heap) × (Heap) × (Nat) × (Tok) × (Option Value) × (Option Value) × (Option Value) × Unit => (skmain_sb1.1.2) q.1 q.2.1 q.2.2.1 q.2.2.2.1 q.2.2.2.2.1 q.2.2.2.2.2.1 q.2.2.2.2.2.2.1 q.2.2.2.2.2.2.2.1 q.2.2.2.2.2.2.2.2.1 q.2.2.2.2.2.2.2.2.2.1 q.2.2.2.2.2.2.2.2.2.2.1 q.2.2.2.2.2.2.2.2.2.2.2.1 q.2.2.2.2.2.2.2.2.2.2.2.2.1 q.2.2.2.2.2.2.2.2.2.2.2.2.2.1 q.2.2.2.2.2.2.2.2.2.2.2.2.2.2.1 q.2.2.2.2.2.2.2.2.2.2.2.2.2.2.2.1 q.2.2.2.2.2.2.2.2.2.2.2.2.2.2.2.2.1 q.2.2.2.2.2.2.2.2.2.2.2.2.2.2.2.2.2.1 q.2.2.2.2.2.2.2.2.2.2.2.2.2.2.2.2.2.2.1 q.2.2.2.2.2.2.2.2.2.2.2.2.2.2.2.2.2.2.2.1 q.2.2.2.2.2.2.2.2.2.2.2.2.2.2.2.2.2.2.2.2.1 q.2.2.2.2.2.2.2.2.2.2.2.2.2.2.2.2.2.2.2.2.2.1 q.2.2.2.2.2.2.2.2.2.2.2.2.2.2.2.2.2.2.2.2.2.2.1 q.2.2.2.2.2.2.2.2.2.2.2.2.2.2.2.2.2.2.2.2.2.2.2.1 q.2.2.2.2.2.2.2.2.2.2.2.2.2.2.2.2.2.2.2.2.2.2.2.2.1) (pick ⟨⟨default, default, default, default, default, default, default, default, default, default, default, default, default, default, default, default, default, default, default, default, default, default, default, default, default, ()⟩⟩ fun q => (skmain_sb1.1.2) q.1 q.2.1 q.2.2.1 q.2.2.2.1 q.2.2.2.2.1 q.2.2.2.2.2.1 q.2.2.2.2.2.2.1 q.2.2.2.2.2.2.2.1 q.2.2.2.2.2.2.2.2.1 q.2.2.2.2.2.2.2.2.2.1 q.2.2.2.2.2.2.2.2.2.2.1 q.2.2.2.2.2.2.2.2.2.2.2.1 q.2.2.2.2.2.2.2.2.2.2.2.2.1 q.2.2.2.2.2.2.2.2.2.2.2.2.2.1 q.2.2.2.2.2.2.2.2.2.2.2.2.2.2.1 q.2.2.2.2.2.2.2.2.2.2.2.2.2.2.2.1 q.2.2.2.2.2.2.2.2.2.2.2.2.2.2.2.2.1 q.2.2.2.2.2.2.2.2.2.2.2.2.2.2.2.2.2.1 q.2.2.2.2.2.2.2.2.2.2.2.2.2.2.2.2.2.2.1 q.2.2.2.2.2.2.2.2.2.2.2.2.2.2.2.2.2.2.2.1 q.2.2.2.2.2.2.2.2.2.2.2.2.2.2.2.2.2.2.2.2.1 q.2.2.2.2.2.2.2.2.2.2.2.2.2.2.2.2.2.2.2.2.2.1 q.2.2.2.2.2.2.2.2.2.2.2.2.2.2.2.2.2.2.2.2.2.2.1 q.2.2.2.2.2.2.2.2.2.2.2.2.2.2.2.2.2.2.2.2.2.2.2.1 q.2.2.2.2.2.2.2.2.2.2.2.2.2.2.2.2.2.2.2.2.2.2.2.2.1) := by with_unfolding_all exact main
  exact fun a0 a1 a2 a3 a4 a5 a6 a7 a8 a9 a10 a11 a12 a13 a14 a15 a16 a17 a18 a19 a20 a21 a22 a23 a24 => pick_spec (P := fun q : (List Value) × (List (Addr × Obj)) × (Addr) × (Heap) × (Heap) × (Nat) × (Addr) × (Addr) × (Tok) × (Tok) × (Tok) × (Addr) × (Addr) × (Nat) × (Nat) × (Heap) × (Addr) × (Addr) × (Heap) × (Heap) × (Nat) × (Tok) × (Option Value) × (Option Value) × (Option Value) × Unit => (skmain_sb1.1.2) q.1 q.2.1 q.2.2.1 q.2.2.2.1 q.2.2.2.2.1 q.2.2.2.2.2.1 q.2.2.2.2.2.2.1 q.2.2.2.2.2.2.2.1 q.2.2.2.2.2.2.2.2.1 q.2.2.2.2.2.2.2.2.2.1 q.2.2.2.2.2.2.2.2.2.2.1 q.2.2.2.2.2.2.2.2.2.2.2.1 q.2.2.2.2.2.2.2.2.2.2.2.2.1 q.2.2.2.2.2.2.2.2.2.2.2.2.2.1 q.2.2.2.2.2.2.2.2.2.2.2.2.2.2.1 q.2.2.2.2.2.2.2.2.2.2.2.2.2.2.2.1 q.2.2.2.2.2.2.2.2.2.2.2.2.2.2.2.2.1 q.2.2.2.2.2.2.2.2.2.2.2.2.2.2.2.2.2.1 q.2.2.2.2.2.2.2.2.2.2.2.2.2.2.2.2.2.2.1 q.2.2.2.2.2.2.2.2.2.2.2.2.2.2.2.2.2.2.2.1 q.2.2.2.2.2.2.2.2.2.2.2.2.2.2.2.2.2.2.2.2.1 q.2.2.2.2.2.2.2.2.2.2.2.2.2.2.2.2.2.2.2.2.2.1 q.2.2.2.2.2.2.2.2.2.2.2.2.2.2.2.2.2.2.2.2.2.2.1 q.2.2.2.2.2.2.2.2.2.2.2.2.2.2.2.2.2.2.2.2.2.2.2.1 q.2.2.2.2.2.2.2.2.2.2.2.2.2.2.2.2.2.2.2.2.2.2.2.2.1) (ne := ⟨⟨default, default, default, default, default, default, default, default, default, default, default, default, default, default, default, default, default, default, default, default, default, default, default, default, default, ()⟩⟩) q1 ⟨a0, a1, a2, a3, a4, a5, a6, a7, a8, a9, a10, a11, a12, a13, a14, a15, a16, a17, a18, a19, a20, a21, a22, a23, a24, ()⟩
end skmain_b
theorem skmain : skP w mean mg mb dp un gd cn cs a ccd cl outer A₀ base h₀ L m s Q E lc lw u up n nc nw cmds vs words wvs pk := skmain_sb1.2 skmain_a.all skmain_b.all
theorem skall : skP skc.1.w skc.1.mean skc.1.mg skc.1.mb skc.1.dp skc.1.un skc.1.gd skc.1.cn skc.1.cs skc.1.a skc.1.ccd skc.1.cl skc.1.outer skc.1.A₀ skc.1.base skc.1.h₀ skc.1.L skc.1.m skc.1.s skc.1.Q skc.1.E skc.2.1 skc.2.2.1 skc.2.2.2.1 skc.2.2.2.2.1 skc.2.2.2.2.2.1 skc.2.2.2.2.2.2.1 skc.2.2.2.2.2.2.2.1 skc.2.2.2.2.2.2.2.2.1 skc.2.2.2.2.2.2.2.2.2.1 skc.2.2.2.2.2.2.2.2.2.2.1 skc.2.2.2.2.2.2.2.2.2.2.2.1 skc.2.2.2.2.2.2.2.2.2.2.2.2.1 := by
  with_unfolding_all exact skmain
end law_written_specK
theorem law_written_spec {w : World} {mean : ExcName → Option Value} {mg mb : Str → Option Value} (lc lw : Addr) (u up : Tok) (n nc nw : Nat) (cmds : List Cmd) (vs : List Value) (words : List (List UInt8)) (wvs : List Value) (pk : List UInt8)
    (hn : n ≤ 4) (hcl : cmds.length ≤ 4) (hok : ∀ c ∈ cmds, okCmd n c) (hwl : words.length ≤ 4) (hwk : ∀ x ∈ words, x ∈ lawWords) (hpk : pk.length ≤ 5) (hrw : Rel2 (fun wd v => TxtV (tx wd) v) words wvs)
    (hpure : rq ((rowsL (joinL [32] words) cmds).flatten ++ [48, 48, 48, 48] ++ pk) n = some (cmds, if cmds = [] then [] else words, pk)) :
    USpec w mean mg mb 9 279 [.ref lc, .ref lw, .bytes pk.toArray up, .int (n : Int) u] (fun h => h.get? lc = some (listOf vs.toArray nc) ∧ Rel2 (CmdH h) cmds vs ∧ h.get? lw = some (listOf wvs.toArray nw)) (fun r tl => tl = [] ∧ r = .bool true) := by
  intro dp un gd cn cs a ccd cl outer A₀ base h₀ L m s Q E
  exact pick_spec (P := fun p : Cx × (Addr) × (Addr) × (Tok) × (Tok) × (Nat) × (Nat) × (Nat) × (List Cmd) × (List Value) × (List (List UInt8)) × (List Value) × (List UInt8) × Unit => law_written_specK.skP p.1.w p.1.mean p.1.mg p.1.mb p.1.dp p.1.un p.1.gd p.1.cn p.1.cs p.1.a p.1.ccd p.1.cl p.1.outer p.1.A₀ p.1.base p.1.h₀ p.1.L p.1.m p.1.s p.1.Q p.1.E p.2.1 p.2.2.1 p.2.2.2.1 p.2.2.2.2.1 p.2.2.2.2.2.1 p.2.2.2.2.2.2.1 p.2.2.2.2.2.2.2.1 p.2.2.2.2.2.2.2.2.1 p.2.2.2.2.2.2.2.2.2.1 p.2.2.2.2.2.2.2.2.2.2.1 p.2.2.2.2.2.2.2.2.2.2.2.1 p.2.2.2.2.2.2.2.2.2.2.2.2.1) law_written_specK.skall (⟨w, mean, mg, mb, dp, un, gd, cn, cs, a, ccd, cl, outer, A₀, base, h₀, L, m, s, Q, E, default, default⟩, lc, lw, u, up, n, nc, nw, cmds, vs, words, wvs, pk, ()) hn hcl hok hwl hwk hpk hrw hpure
end
section
variable {w : World} {mean : ExcName → Option Value} {mg mb : Str → Option Value}
end
end
section
set_option maxHeartbeats 4000000
/-- the lines of a request as another hand writes them -/
noncomputable def OthOk (bare : Bool) (ws : List UInt8) (cmds : List Cmd) (lines : List (List UInt8)) : Prop :=
  lines.length = cmds.length ∧ ∀ (j : Nat) (c : Cmd), cmds[j]? = some c → ∃ f : List UInt8, (f = [] ∨ f = [10]) ∧ lines[j]? = some (lineL (crow c ++ (if j = 0 ∧ bare = false then [0] ++ ws ++ [32] else []) ++ f))
theorem OthOk.snoc {bare : Bool} {ws : List UInt8} {cmds : List Cmd} {lines : List (List UInt8)} {i : Nat} {c : Cmd} {f : List UInt8} (h : OthOk bare ws (cmds.take i) lines) (hc : cmds[i]? = some c) (hf : f = [] ∨ f = [10]) :
    OthOk bare ws (cmds.take (i + 1)) (lines ++ [lineL (crow c ++ (if i = 0 ∧ bare = false then [0] ++ ws ++ [32] else []) ++ f)]) := by
  obtain ⟨h1, h2⟩ := h
  have hi : i < cmds.length := (List.getElem?_eq_some_iff.mp hc).1
  have hl : lines.length = i := by rw [h1, List.length_take]; omega
  refine ⟨by rw [List.length_append, List.length_singleton, hl, List.length_take]; omega, fun j d hj => ?_⟩
  have hji : j < i + 1 := by
    have := (List.getElem?_eq_some_iff.mp hj).1
    rw [List.length_take] at this; omega
  rw [List.getElem?_take, if_pos hji] at hj
  by_cases e : j = i
  · subst e
    rw [hc] at hj
    cases hj
    exact ⟨f, hf, by rw [List.getElem?_append_right (by omega), hl, Nat.sub_self]; rfl⟩
  · obtain ⟨g, hg, hg2⟩ := h2 j d (by rw [List.getElem?_take, if_pos (by omega)]; exact hj)
    exact ⟨g, hg, by rw [List.getElem?_append_left (by omega)]; exact hg2⟩
theorem OthOk.le {bare : Bool} {ws : List UInt8} {cmds : List Cmd} {lines : List (List UInt8)} (h : OthOk bare ws cmds lines) (hw : ws.length ≤ 70) (hc : ∀ c ∈ cmds, (crow c).length ≤ 100) : lines.flatten.length ≤ 250 * cmds.length := by
  obtain ⟨h1, h2⟩ := h
  have key : ∀ x ∈ lines, x.length ≤ 250 := fun x hx => by
    obtain ⟨j, hj⟩ := List.getElem?_of_mem hx
    have hjl : j < cmds.length := by rw [← h1]; exact (List.getElem?_eq_some_iff.mp hj).1
    obtain ⟨f, hf, e⟩ := h2 j cmds[j] (List.getElem?_eq_getElem hjl)
    rw [hj] at e
    cases e
    have := hc cmds[j] (List.getElem_mem hjl)
    have hfl : f.length ≤ 1 := by rcases hf with rfl | rfl <;> simp
    simp only [lineL, figs, List.length_append, List.length_cons, List.length_nil]
    split
    · simp only [List.length_append, List.length_cons, List.length_nil]; omega
    · simp only [List.length_nil]; omega
  have := sum_le _ key
  rw [List.length_flatten, ← h1]
  omega
section
variable {w : World} {mean : ExcName → Option Value} {mg mb : Str → Option Value}
/-- what other_right asks, in plain lists -/
noncomputable def OthPure (n : Nat) (cmds : List Cmd) (words : List (List UInt8)) (pk : List UInt8) : Prop := ∀ (bare : Bool) (lines : List (List UInt8)), OthOk bare (joinL [32, 32] words) cmds lines →
  rq (lines.flatten ++ [48, 48, 48, 48] ++ pk) n = some (cmds, if bare = true ∨ cmds = [] then [] else words, pk) ∧
  (∀ a, a < lines.flatten.length + 4 → rq ((lines.flatten ++ [48, 48, 48, 48]).take a) n = none) ∧
  rq (lines.flatten ++ [48, 48, 48, 49] ++ pk) n = none ∧ rq (lines.flatten ++ [48, 48, 48, 50] ++ pk) n = none ∧
  (∀ x, (x = [115, 104, 97, 108, 108, 111, 119, 32] ++ List.replicate (2 * n) 48 ∨ x = [10] ∨ x = List.replicate (4 * n) 48) → rq (lines.flatten ++ lineL x ++ [48, 48, 48, 48]) n = none) ∧
  rq ([48, 48, 48, 49] ++ lines.flatten ++ [48, 48, 48, 48]) n = none
theorem oth_ledger {h₀ h : Heap} {L : Addr} {d e i a : Addr × Obj} (N : News h₀ L h [d, e, i, a]) : News h₀ L h [a, d, e, i] := news_weak N (by simp)
theorem mono_namedA {α : Type} {M : Model} {A : Around} {E : Value → Shared → Prop} {s : Shared} {h₀ : Heap} {L : Addr} {m : Nms} {c : Sem α} {Q : α → Shared → Prop} (_F : Fr h₀ L s.heap m)
    (X : Nms → α → Shared → Prop) (h : ∀ R : α → Shared → Prop, (∀ f s', X m f s' → R f s') → wpAny M A c R E s) (h2 : ∀ f s', X m f s' → Q f s') : wpAny M A c Q E s :=
  wpAny_mono (h _ fun _ _ x => x) h2 fun _ _ e => e
theorem rep_two (n : Nat) : (List.replicate n [(48 : UInt8), 48]).flatten = List.replicate (2 * n) 48 := by
  induction n with
  | zero => rfl
  | succ n ih => rw [List.replicate_succ, List.flatten_cons, ih, show 2 * (n + 1) = 2 * n + 1 + 1 by omega, List.replicate_succ, List.replicate_succ]; rfl
theorem rep_four (n : Nat) : (List.replicate n [(48 : UInt8), 48, 48, 48]).flatten = List.replicate (4 * n) 48 := by
  induction n with
  | zero => rfl
  | succ n ih => rw [List.replicate_succ, List.flatten_cons, ih, show 4 * (n + 1) = 4 * n + 1 + 1 + 1 + 1 by omega, List.replicate_succ, List.replicate_succ, List.replicate_succ, List.replicate_succ]; rfl
theorem oth_due {h₀ h : Heap} {L : Addr} {d x a : Addr × Obj} {l : List (Addr × Obj)} (N : News h₀ L h (d :: x :: l)) (ha : a ∈ x :: l := by simp) : News h₀ L h (d :: a :: x :: l) := news_weak N fun p hp => by
  simp only [List.mem_cons] at hp ha ⊢
  rcases hp with h | h | h | h
  · simp [h]
  · rw [h]; rcases ha with h | h <;> simp [h]
  · simp [h]
  · simp [h]
end
section
namespace law_other_specK
noncomputable def skP (w : World) (mean : ExcName → Option Value) (mg : Str → Option Value) (mb : Str → Option Value) (dp : Nat) (un : Nat) (gd : Option (List Code)) (cn : Str) (cs : Scope) (a : Addr) (ccd : Value) (cl : List (Str × Addr)) (outer : List Env) (A₀ : Around) (base : Heap) (h₀ : Heap) (L : Addr) (m : Str → Option Value) (s : Shared) (Q : Value → Shared → Prop) (E : Value → Shared → Prop) (o : Obj) (io : Obj) (t : Addr) (inner : Addr) (lc : Addr) (lw : Addr) (u : Tok) (up : Tok) (n : Nat) (nc : Nat) (nw : Nat) (cmds : List Cmd) (vs : List Value) (words : List (List UInt8)) (wvs : List Value) (pk : List UInt8) : Prop :=
  (n ≤ 4) → (cmds.length ≤ 4) → (∀ c ∈ cmds, okCmd n c) → (words.length ≤ 4) → (∀ x ∈ words, x ∈ lawWords) → (pk.length ≤ 5) → (Rel2 (fun wd v => TxtV (tx wd) v) words wvs) → (OthPure n cmds words pk) → UTSpecAt w mean mg mb dp un gd cn cs a ccd cl outer A₀ base h₀ L m s Q E o io 9 284 [.ref t, .ref lc, .ref lw, .bytes pk.toArray up, .int (n : Int) u] t inner (fun h => lc ≠ t ∧ lw ≠ t ∧ h.get? lc = some (listOf vs.toArray nc) ∧ Rel2 (CmdH h) cmds vs ∧ h.get? lw = some (listOf wvs.toArray nw)) (fun r => r = .bool true)
noncomputable def skc : Cx × (Addr) × (Addr) × (Addr) × (Addr) × (Tok) × (Tok) × (Nat) × (Nat) × (Nat) × (List Cmd) × (List Value) × (List (List UInt8)) × (List Value) × (List UInt8) × Unit := pick ⟨(cx0, default, default, default, default, default, default, default, default, default, default, default, default, default, default, ())⟩ (fun p : Cx × (Addr) × (Addr) × (Addr) × (Addr) × (Tok) × (Tok) × (Nat) × (Nat) × (Nat) × (List Cmd) × (List Value) × (List (List UInt8)) × (List Value) × (List UInt8) × Unit => skP p.1.w p.1.mean p.1.mg p.1.mb p.1.dp p.1.un p.1.gd p.1.cn p.1.cs p.1.a p.1.ccd p.1.cl p.1.outer p.1.A₀ p.1.base p.1.h₀ p.1.L p.1.m p.1.s p.1.Q p.1.E p.1.o p.1.io p.2.1 p.2.2.1 p.2.2.2.1 p.2.2.2.2.1 p.2.2.2.2.2.1 p.2.2.2.2.2.2.1 p.2.2.2.2.2.2.2.1 p.2.2.2.2.2.2.2.2.1 p.2.2.2.2.2.2.2.2.2.1 p.2.2.2.2.2.2.2.2.2.2.1 p.2.2.2.2.2.2.2.2.2.2.2.1 p.2.2.2.2.2.2.2.2.2.2.2.2.1 p.2.2.2.2.2.2.2.2.2.2.2.2.2.1 p.2.2.2.2.2.2.2.2.2.2.2.2.2.2.1)
@[irreducible] noncomputable def w : World := skc.1.w
@[irreducible] noncomputable def mean : ExcName → Option Value := skc.1.mean
@[irreducible] noncomputable def mg : Str → Option Value := skc.1.mg
@[irreducible] noncomputable def mb : Str → Option Value := skc.1.mb
@[irreducible] noncomputable def dp : Nat := skc.1.dp
@[irreducible] noncomputable def un : Nat := skc.1.un
@[irreducible] noncomputable def gd : Option (List Code) := skc.1.gd
@[irreducible] noncomputable def cn : Str := skc.1.cn
@[irreducible] noncomputable def cs : Scope := skc.1.cs
@[irreducible] noncomputable def a : Addr := skc.1.a
@[irreducible] noncomputable def ccd : Value := skc.1.ccd
@[irreducible] noncomputable def cl : List (Str × Addr) := skc.1.cl
@[irreducible] noncomputable def outer : List Env := skc.1.outer
@[irreducible] noncomputable def A₀ : Around := skc.1.A₀
@[irreducible] noncomputable def base : Heap := skc.1.base
@[irreducible] noncomputable def h₀ : Heap := skc.1.h₀
@[irreducible] noncomputable def L : Addr := skc.1.L
@[irreducible] noncomputable def m : Str → Option Value := skc.1.m
@[irreducible] noncomputable def s : Shared := skc.1.s
@[irreducible] noncomputable def Q : Value → Shared → Prop := skc.1.Q
@[irreducible] noncomputable def E : Value → Shared → Prop := skc.1.E
@[irreducible] noncomputable def o : Obj := skc.1.o
@[irreducible] noncomputable def io : Obj := skc.1.io
@[irreducible] noncomputable def t : Addr := skc.2.1
@[irreducible] noncomputable def inner : Addr := skc.2.2.1
@[irreducible] noncomputable def lc : Addr := skc.2.2.2.1
@[irreducible] noncomputable def lw : Addr := skc.2.2.2.2.1
@[irreducible] noncomputable def u : Tok := skc.2.2.2.2.2.1
@[irreducible] noncomputable def up : Tok := skc.2.2.2.2.2.2.1
@[irreducible] noncomputable def n : Nat := skc.2.2.2.2.2.2.2.1
@[irreducible] noncomputable def nc : Nat := skc.2.2.2.2.2.2.2.2.1
@[irreducible] noncomputable def nw : Nat := skc.2.2.2.2.2.2.2.2.2.1
@[irreducible] noncomputable def cmds : List Cmd := skc.2.2.2.2.2.2.2.2.2.2.1
@[irreducible] noncomputable def vs : List Value := skc.2.2.2.2.2.2.2.2.2.2.2.1
@[irreducible] noncomputable def words : List (List UInt8) := skc.2.2.2.2.2.2.2.2.2.2.2.2.1
@[irreducible] noncomputable def wvs : List Value := skc.2.2.2.2.2.2.2.2.2.2.2.2.2.1
@[irreducible] noncomputable def pk : List UInt8 := skc.2.2.2.2.2.2.2.2.2.2.2.2.2.2.1
noncomputable def en : { P : Addr → Heap → Prop // (∀ L' h', P L' h') → skP w mean mg mb dp un gd cn cs a ccd cl outer A₀ base h₀ L m s Q E o io t inner lc lw u up n nc nw cmds vs words wvs pk } :=
  ⟨_, by
  intro hP hn hcl hok hwl hwk hpk hrw hpure B F XB TB D hk hd hu hp N hT hi hio hret
  have X := XB.keeps B.stays
  have T := TB.keeps B.stays
  have hit := inner_ne hT hi hio (N _ List.mem_cons_self).1
  refine wpAny_call ?_
  k_dflt k_extra "enM"⟩
noncomputable def enc : Addr × Heap := pick ⟨default⟩ fun p => en.1 p.1 p.2
@[irreducible] noncomputable def L' : Addr := enc.1
@[irreducible] noncomputable def h' : Heap := enc.2
theorem enall (q : en.1 L' h') : ∀ a b, en.1 a b := by
  have q1 : (fun p : Addr × Heap => en.1 p.1 p.2) (pick ⟨default⟩ fun p => en.1 p.1 p.2) := by with_unfolding_all exact q
  exact fun a b => pick_spec (P := fun p : Addr × Heap => en.1 p.1 p.2) (ne := ⟨default⟩) q1 (a, b)
noncomputable def skmain_sb1 : { pQ : ((Int) → (Heap) → (Nat) → (Obj) → (Addr) → (Heap) → (Addr) → (Addr) → (Heap) → (Nat) → (Tok) → (Heap) → (Nat) → (Addr) → (Addr) → (Obj) → (Obj) → (Flow → Shared → Prop) → (Value → Shared → Prop) → (Obj) → (List (List UInt8)) → (Tok) → (Option Value) → (Option Value) → (Option Value) → (Cmd) → (Addr) → (Tok) → (Tok) → (Tok) → (Nat) → Prop) × ((Int) → (Heap) → (Nat) → (Obj) → (Addr) → (Heap) → (Addr) → (Addr) → (Heap) → (Heap) → (Nat) → (Obj) → (List (List UInt8)) → (Tok) → (Option Value) → (Option Value) → (Option Value) → Prop) // (∀ (w1 : Int) (z0 : Heap) (tk' : Nat) (o1 : Obj) (z1 : Addr) (z6 : Heap) (e : Addr) (it : Addr) (h' : Heap) (i : Nat) (uk : Tok) (h : Heap) (tk : Nat) (e2 : Addr) (it2 : Addr) (oe2 : Obj) (oi2 : Obj) (Q' : Flow → Shared → Prop) (E' : Value → Shared → Prop) (o2 : Obj) (lines : List (List UInt8)) (t9 : Tok) (ok9 : Option Value) (oc9 : Option Value) (ob9 : Option Value) (c : Cmd) (x : Addr) (t1 : Tok) (t2 : Tok) (t3 : Tok) (kk : Nat), pQ.1 w1 z0 tk' o1 z1 z6 e it h' i uk h tk e2 it2 oe2 oi2 Q' E' o2 lines t9 ok9 oc9 ob9 c x t1 t2 t3 kk) → (∀ (w1 : Int) (z0 : Heap) (z1 : Nat) (o1 : Obj) (z2 : Addr) (z7 : Heap) (e : Addr) (it : Addr) (z8 : Heap) (h' : Heap) (tk' : Nat) (o2 : Obj) (lines : List (List UInt8)) (t9 : Tok) (ok9 : Option Value) (oc9 : Option Value) (ob9 : Option Value), pQ.2 w1 z0 z1 o1 z2 z7 e it z8 h' tk' o2 lines t9 ok9 oc9 ob9) → (skP w mean mg mb dp un gd cn cs a ccd cl outer A₀ base h₀ L m s Q E o io t inner lc lw u up n nc nw cmds vs words wvs pk) } := ⟨(_, _), by
  intro hP_a hP_b
  intro hn hcl hok hwl hwk hpk hrw hpure B F XB TB D hk hd hu hp N hT hi hio hret
  have X := XB.keeps B.stays
  have T := TB.keeps B.stays
  have hit := inner_ne hT hi hio (N _ List.mem_cons_self).1
  have D1 := dicts_hide (W := [t]) (dicts_push (name := cn) (scope := cs) (a := a) (cd := ccd) (cl := cl) D F) (by intro b hb hm; rw [List.mem_singleton.mp hm] at hb; exact off_frames B N _ List.mem_cons_self hb)
  refine en.2 (enall ?_) hn hcl hok hwl hwk hpk hrw hpure B F XB TB D hk hd hu hp N hT hi hio hret
  intro _ _ _ _ _ _
  (try dsimp only)
  k_extra "k_steps"
  rename_i F1 N1 B1 X1 T1 hL1
  dsimp only [List.map_cons, List.map_nil] at F1 N1 B1 X1 T1
  obtain ⟨hlt, hlwt, hlc, hrel, hlw⟩ := hp
  have hlc0 : (hideAll s.heap [t]).get? lc = some (listOf vs.toArray nc) := hideAll_get _ hlc (by simpa using hlt)
  have hlw0 : (hideAll s.heap [t]).get? lw = some (listOf wvs.toArray nw) := hideAll_get _ hlw (by simpa using hlwt)
  have hin0 : (hideAll s.heap [t]).get? inner = some io := hideAll_get _ hi (by simpa using hit)
  have hrel0 : Rel2 (CmdH (hideAll s.heap [t])) cmds vs := hrel.mono fun _ _ => CmdH.mono fun b o e _ hc => hideAll_get _ e (by simpa using tape_not_tuple hT (N _ List.mem_cons_self).1 e hc)
  have hvl := hrel.length
  have hwvl := hrw.length
  clear N F B X T
  refine draw (by k_asm) (by k_asm) (by k_asm) (by exact N1) (by k_asm) rfl (by k_extra "ktr_room") (by k_extra "ktr_room") (List.forall_mem_nil _) hT (fr_stays (by k_asm) _ _ hin0) hio (by decide) fun w1 uw1 h' tk' o1 hw0 hw1 F' N' hT1 hst => ?_
  k_extra "k_steps"
  rename_i F3 N3
  have N4 : News (hideAll s.heap [t]) L' _ [(t, o1)] := news_weak N3 fun p hp => List.mem_cons_of_mem _ hp
  clear N3
  generalize hbw : (w1 == 2) = bare at F3
  refine for_enum (by k_asm) rfl (by rfl) (by rfl) (by rfl) ?_
  k_extra "k_steps"
  refine call_enum (by k_asm) N4 (fr_stays (by k_asm) _ _ hlc0) rfl rfl fun e it h' he hit' F' N' hstE he0 hi0 hei => ?_
  have hws : (joinL [32, 32] words).length ≤ 60 := by
    have e1 := joinL_le [32, 32] words
    have e2 := sum_le (B := 13) words fun x hx => lawWords_le (hwk x hx)
    have e3 : ([32, 32] : List UInt8).length = 2 := rfl
    rw [e3] at e1; omega
  have hcr : ∀ c ∈ cmds, (crow c).length ≤ 100 := fun c hc => (crow_le (hok c hc) hn).1
  refine' ⟨e, it, lc, listOf vs.toArray nc, vs.toArray, nc, ?mB, ?nB, fun i m' nw' => ∃ o lines tb ok oc ob, nw' = [(t, o)] ∧ TapeO inner o ∧ OthOk bare (joinL [32, 32] words) (cmds.take i) lines ∧ m' = ovr [(Str.ofString "command", oc), (Str.ofString "k", ok), (Str.ofString "row", ob), (Str.ofString "octets", some (.bytes lines.flatten.toArray tb))] ?mB,
    rfl, he, hit', F'.keep _ _ hlc0, rfl, rfl, hei, ?q1, ?q2, ?q3, ?q4, ?q5, ?q6, ?q7, ?q8, ?qF, ?qN, ?qJ, ?turnE, ?doneE⟩
  case qF => exact F'
  case qN => exact N'
  case qJ => exact ⟨o1, [], _, _, _, _, rfl, hT1, ⟨rfl, fun j c hj => by simp at hj⟩, funext (ovr_cons rfl (ovr_cons rfl (ovr_cons rfl (ovr_cons rfl fun _ => rfl))))⟩
  case q1 => exact new_ne (fr_stays F3 _ _ hlc0) he0
  case q2 => exact new_ne (fr_stays F3 _ _ hlc0) hi0
  case q3 => exact new_ne_L F3 he0
  case q4 => exact new_ne_L F3 hi0
  case q5 => exact old_ne_L F3 hlc0
  case q6 => exact kts_none F3.keep he0
  case q7 => exact kts_none F3.keep hi0
  case q8 => exact fun p hp => ⟨new_ne (N4 p hp).1 he0, new_ne (N4 p hp).1 hi0⟩
  case turnE =>
    intro i v uk m₁ nw₁ h tk hv hz0 hS e2 it2 oe2 oi2 Q' E' F' N' hne hnext hbrk hret'
    obtain ⟨o2, lines, t9, ok9, oc9, ob9, rfl, hT2, hoth, rfl⟩ := hz0
    dsimp only [ovr] at *
    obtain ⟨c, hc, x, t1, t2, t3, kk, rfl, hx0⟩ := hrel0.get (by simpa using hv)
    rename_i z0 z1 z2 z3 z4 z5 z6 z7 z8
    revert hP_b hn hcl hok hwl hwk hpk hrw hpure XB TB D hk hd hu hT hi hio hret hit D1 B1 X1 T1 hL1 hlt hlwt hlc hrel hlw hlc0 hlw0 hin0 hrel0 hvl hwvl hw0 hw1 hT1 hst z3 N4 bare hbw F3 he hit' z7 z8 hstE he0 hi0 hei hws hcr hS hnext hbrk hret' N' hne hT2 hoth hc hx0 hv F'; exact hP_a w1 z0 tk' o1 z1 z6 e it h' i uk h tk e2 it2 oe2 oi2 Q' E' o2 lines t9 ok9 oc9 ob9 c x t1 t2 t3 kk
  case doneE =>
    rintro m' nw₁ h' tk' ⟨o2, lines, t9, ok9, oc9, ob9, rfl, hT2, hoth, rfl⟩ hS F' N'
    have et : cmds.take vs.toArray.size = cmds := List.take_of_length_le (by simp only [List.size_toArray]; omega)
    rw [et] at hoth
    have ho := hoth.le (by omega) hcr
    have ho3 : lines.flatten.length ≤ 1000 := by omega
    dsimp only [ovr] at *
    rename_i z0 z1 z2 z3 z4 z5 z6 z7 z8 z9 z10
    revert hn hcl hok hwl hwk hpk hrw hpure XB TB D hk hd hu hT hi hio hret hit D1 B1 X1 T1 hL1 hlt hlwt hlc hrel hlw hlc0 hlw0 hin0 hrel0 hvl hwvl hw0 hw1 hT1 hst z4 N4 bare hbw F3 he hit' z9 z10 hstE he0 hi0 hei hws hcr hT2 hoth hS F' N' et ho ho3; exact hP_b w1 z0 z1 o1 z2 z7 e it z8 h' tk' o2 lines t9 ok9 oc9 ob9⟩
namespace skmain_a
noncomputable def c0 : (Int) × (Heap) × (Nat) × (Obj) × (Addr) × (Heap) × (Addr) × (Addr) × (Heap) × (Nat) × (Tok) × (Heap) × (Nat) × (Addr) × (Addr) × (Obj) × (Obj) × (Flow → Shared → Prop) × (Value → Shared → Prop) × (Obj) × (List (List UInt8)) × (Tok) × (Option Value) × (Option Value) × (Option Value) × (Cmd) × (Addr) × (Tok) × (Tok) × (Tok) × (Nat) × Unit := pick ⟨⟨default, default, default, default, default, default, default, default, default, default, default, default, default, default, default, default, default, default, default, default, default, default, default, default, default, default, default, default, default, default, default, ()⟩⟩ fun q => (skmain_sb1.1.1) q.1 q.2.1 q.2.2.1 q.2.2.2.1 q.2.2.2.2.1 q.2.2.2.2.2.1 q.2.2.2.2.2.2.1 q.2.2.2.2.2.2.2.1 q.2.2.2.2.2.2.2.2.1 q.2.2.2.2.2.2.2.2.2.1 q.2.2.2.2.2.2.2.2.2.2.1 q.2.2.2.2.2.2.2.2.2.2.2.1 q.2.2.2.2.2.2.2.2.2.2.2.2.1 q.2.2.2.2.2.2.2.2.2.2.2.2.2.1 q.2.2.2.2.2.2.2.2.2.2.2.2.2.2.1 q.2.2.2.2.2.2.2.2.2.2.2.2.2.2.2.1 q.2.2.2.2.2.2.2.2.2.2.2.2.2.2.2.2.1 q.2.2.2.2.2.2.2.2.2.2.2.2.2.2.2.2.2.1 q.2.2.2.2.2.2.2.2.2.2.2.2.2.2.2.2.2.2.1 q.2.2.2.2.2.2.2.2.2.2.2.2.2.2.2.2.2.2.2.1 q.2.2.2.2.2.2.2.2.2.2.2.2.2.2.2.2.2.2.2.2.1 q.2.2.2.2.2.2.2.2.2.2.2.2.2.2.2.2.2.2.2.2.2.1 q.2.2.2.2.2.2.2.2.2.2.2.2.2.2.2.2.2.2.2.2.2.2.1 q.2.2.2.2.2.2.2.2.2.2.2.2.2.2.2.2.2.2.2.2.2.2.2.1 q.2.2.2.2.2.2.2.2.2.2.2.2.2.2.2.2.2.2.2.2.2.2.2.2.1 q.2.2.2.2.2.2.2.2.2.2.2.2.2.2.2.2.2.2.2.2.2.2.2.2.2.1 q.2.2.2.2.2.2.2.2.2.2.2.2.2.2.2.2.2.2.2.2.2.2.2.2.2.2.1 q.2.2.2.2.2.2.2.2.2.2.2.2.2.2.2.2.2.2.2.2.2.2.2.2.2.2.2.1 q.2.2.2.2.2.2.2.2.2.2.2.2.2.2.2.2.2.2.2.2.2.2.2.2.2.2.2.2.1 q.2.2.2.2.2.2.2.2.2.2.2.2.2.2.2.2.2.2.2.2.2.2.2.2.2.2.2.2.2.1 q.2.2.2.2.2.2.2.2.2.2.2.2.2.2.2.2.2.2.2.2.2.2.2.2.2.2.2.2.2.2.1
@[irreducible] noncomputable def w1 : Int := c0.1
@[irreducible] noncomputable def z0 : Heap := c0.2.1
@[irreducible] noncomputable def tk' : Nat := c0.2.2.1
@[irreducible] noncomputable def o1 : Obj := c0.2.2.2.1
@[irreducible] noncomputable def z1 : Addr := c0.2.2.2.2.1
@[irreducible] noncomputable def z6 : Heap := c0.2.2.2.2.2.1
@[irreducible] noncomputable def e : Addr := c0.2.2.2.2.2.2.1
@[irreducible] noncomputable def it : Addr := c0.2.2.2.2.2.2.2.1
@[irreducible] noncomputable def h' : Heap := c0.2.2.2.2.2.2.2.2.1
@[irreducible] noncomputable def i : Nat := c0.2.2.2.2.2.2.2.2.2.1
@[irreducible] noncomputable def uk : Tok := c0.2.2.2.2.2.2.2.2.2.2.1
@[irreducible] noncomputable def h : Heap := c0.2.2.2.2.2.2.2.2.2.2.2.1
@[irreducible] noncomputable def tk : Nat := c0.2.2.2.2.2.2.2.2.2.2.2.2.1
@[irreducible] noncomputable def e2 : Addr := c0.2.2.2.2.2.2.2.2.2.2.2.2.2.1
@[irreducible] noncomputable def it2 : Addr := c0.2.2.2.2.2.2.2.2.2.2.2.2.2.2.1
@[irreducible] noncomputable def oe2 : Obj := c0.2.2.2.2.2.2.2.2.2.2.2.2.2.2.2.1
@[irreducible] noncomputable def oi2 : Obj := c0.2.2.2.2.2.2.2.2.2.2.2.2.2.2.2.2.1
@[irreducible] noncomputable def Q' : Flow → Shared → Prop := c0.2.2.2.2.2.2.2.2.2.2.2.2.2.2.2.2.2.1
@[irreducible] noncomputable def E' : Value → Shared → Prop := c0.2.2.2.2.2.2.2.2.2.2.2.2.2.2.2.2.2.2.1
@[irreducible] noncomputable def o2 : Obj := c0.2.2.2.2.2.2.2.2.2.2.2.2.2.2.2.2.2.2.2.1
@[irreducible] noncomputable def lines : List (List UInt8) := c0.2.2.2.2.2.2.2.2.2.2.2.2.2.2.2.2.2.2.2.2.1
@[irreducible] noncomputable def t9 : Tok := c0.2.2.2.2.2.2.2.2.2.2.2.2.2.2.2.2.2.2.2.2.2.1
@[irreducible] noncomputable def ok9 : Option Value := c0.2.2.2.2.2.2.2.2.2.2.2.2.2.2.2.2.2.2.2.2.2.2.1
@[irreducible] noncomputable def oc9 : Option Value := c0.2.2.2.2.2.2.2.2.2.2.2.2.2.2.2.2.2.2.2.2.2.2.2.1
@[irreducible] noncomputable def ob9 : Option Value := c0.2.2.2.2.2.2.2.2.2.2.2.2.2.2.2.2.2.2.2.2.2.2.2.2.1
@[irreducible] noncomputable def c : Cmd := c0.2.2.2.2.2.2.2.2.2.2.2.2.2.2.2.2.2.2.2.2.2.2.2.2.2.1
@[irreducible] noncomputable def x : Addr := c0.2.2.2.2.2.2.2.2.2.2.2.2.2.2.2.2.2.2.2.2.2.2.2.2.2.2.1
@[irreducible] noncomputable def t1 : Tok := c0.2.2.2.2.2.2.2.2.2.2.2.2.2.2.2.2.2.2.2.2.2.2.2.2.2.2.2.1
@[irreducible] noncomputable def t2 : Tok := c0.2.2.2.2.2.2.2.2.2.2.2.2.2.2.2.2.2.2.2.2.2.2.2.2.2.2.2.2.1
@[irreducible] noncomputable def t3 : Tok := c0.2.2.2.2.2.2.2.2.2.2.2.2.2.2.2.2.2.2.2.2.2.2.2.2.2.2.2.2.2.1
@[irreducible] noncomputable def kk : Nat := c0.2.2.2.2.2.2.2.2.2.2.2.2.2.2.2.2.2.2.2.2.2.2.2.2.2.2.2.2.2.2.1
theorem main : (skmain_sb1.1.1) w1 z0 tk' o1 z1 z6 e it h' i uk h tk e2 it2 oe2 oi2 Q' E' o2 lines t9 ok9 oc9 ob9 c x t1 t2 t3 kk := by
  intro hP_b hn hcl hok hwl hwk hpk hrw hpure XB TB D hk hd hu hT hi hio hret hit D1 B1 X1 T1 hL1 hlt hlwt hlc hrel hlw hlc0 hlw0 hin0 hrel0 hvl hwvl hw0 hw1 hT1 hst z3 N4 bare hbw F3 he hit' z7 z8 hstE he0 hi0 hei hws hcr hS hnext hbrk hret' N' hne hT2 hoth hc hx0 hv F'
  have hokc := hok c (List.mem_of_getElem? hc)
  have hcle := crow_le hokc hn
  have hnl := lawNames_le hokc.2.2
  have h1l := hokc.1
  have h2l := hokc.2.1
  have ho := hoth.le (by omega) fun c hc => hcr c (List.mem_of_mem_take hc)
  have htk : (cmds.take i).length ≤ 4 := by rw [List.length_take]; omega
  have ho2 : lines.flatten.length ≤ 1000 := by omega
  have qe : t ≠ e2 ∧ t ≠ it2 := hne (t, o2) List.mem_cons_self
  k_extra "k_steps"
  refine Spec.use (law_row_spec x t1 t2 t3 kk c (by omega) (by omega) (by omega)) (by k_asm) (by k_asm) (by k_asm) (by k_asm) (by k_asm) rfl (by k_extra "ktr_room") (by k_extra "ktr_room") (fr_stays (by k_asm) _ _ hx0) ?_ (fun x => x.elim)
  rintro r tl h' tk' F' N' hsep2 hst2 ⟨rfl, u5, rfl⟩
  dsimp only [List.nil_append] at N'
  k_extra "k_toif"
  rename_i Fr5 Nr5
  obtain ⟨XX, hXX⟩ : ∃ XX : List UInt8, XX = (if i = 0 ∧ bare = false then [0] ++ joinL [32, 32] words ++ [32] else []) := ⟨_, rfl⟩
  have hXl : XX.length ≤ 62 := by
    rw [hXX]; split
    · simp only [List.length_append, List.length_cons, List.length_nil]; omega
    · exact Nat.zero_le _
  refine wpAny_execs_cons ?_
  refine cut_one Fr5 Nr5 (Str.ofString "row") (fun tb => .bytes (crow c ++ XX).toArray tb) ?_ ?_
  · intro R hR
    cases bare with
    | false =>
      k_extra "k_steps"
      · have hi8 : i = 0 := by omega
        k_extra "ktr_step"
        k_extra "k_steps"
        refine CompGo.rel (xs := words) (fun wd y => BytV wd y) (IterOf.rel hrw (iter_list (ol := listOf wvs.toArray nw) rfl (fr_stays (by k_asm) _ _ hlw0) rfl rfl)) (by k_asm) (by k_asm) (fun p hp => .inl (by rw [List.mem_singleton.mp hp]; exact hlw0)) (by rw [sizeLine_eq]; omega) ?_ ?_ (fun x => x.elim)
        · intro wd v C oC m₂ hwd hz0 hn1 hx1 I oI D ys h tk Q3 E3 F' N' off ne hret3 _
          obtain ⟨uw, rfl⟩ := hz0
          have hwdl := lawWords_le (hwk wd hwd)
          k_extra "k_steps"
          k_dflt (refine comp_exprQ (exc := False) (outer := outer) (by k_asm) (fun x => x.elim) rfl (fun x => x.elim) (by rfl) (by decide) (by rfl) (by decide) (by rfl) ?_)
          k_extra "k_steps"
          refine CompGo.rel (xs := tx wd) (fun c y => ∃ t, y = .int (c : Int) t) (iter_str rfl) F' N' (List.forall_mem_nil _) (by rw [sizeLine_eq]; simp only [tx, List.length_map]; omega) ?_ ?_ (fun x => x.elim)
          · intro c5 v5 C5 oC5 m5 hc5 hz0 hn5 hx5 I5 oI5 D5 ys5 h5 tk5 Q5 E5 F' N' off5 ne5 hret5 _
            obtain ⟨u5, rfl⟩ := hz0
            k_extra "k_steps"
            exact hret5 _ _ _ F' N' ⟨_, rfl⟩
          · intro ys5 hr5 D5 h5 tk5 F' N' o5
            have hr6 : Rel2 OctV wd ys5 := Rel2.unmap (fun c : UInt8 => c.toNat) hr5
            k_extra "k_steps"
            refine bytes_of_list (by k_asm) (by k_asm) rfl (News.isList (by k_asm) (by k_mem)) hr6 (by omega) fun h' t' k' F' N' => ?_
            k_extra "k_steps"
            exact hret3 _ _ _ F' (news_weak N' fun p hp => List.mem_cons_of_mem _ hp) ⟨_, rfl⟩
        · intro ys hr10 D10 h tk F' N' o10
          k_extra "k_steps"
          refine bjoin_L (sep := [32, 32]) hr10 (News.isList (by k_asm) (by k_mem)) (by
            have e2 := sum_le (B := 13) words fun x hx => lawWords_le (hwk x hx)
            have e3 : ([32, 32] : List UInt8).length = 2 := rfl
            rw [e3]; omega) fun t' k' => ?_
          have N9 : News (hideAll s.heap [t]) L' _ [(e2, oe2), (it2, oi2), (t, o2)] := news_weak N' fun p hp => List.mem_cons_of_mem _ hp
          clear N'
          k_extra "k_steps"
          rename_i F6 N6
          have eX : crow c ++ XX = crow c ++ [0] ++ joinL [32, 32] words ++ [32] := by rw [hXX, if_pos ⟨hi8, rfl⟩]; simp only [List.append_assoc]
          exact hR _ _ _ (by rw [eX]; exact F6) N6
      · exact hR _ _ u5 (by rw [hXX, if_neg (fun h => absurd h.1 (by omega)), List.append_nil, upd_twice]; exact Fr5) Nr5
    | true =>
      have hq : XX = [] := by rw [hXX, if_neg (fun h => by cases h.2)]
      k_extra "k_steps"
      · exact hR _ _ u5 (by rw [hq, List.append_nil, upd_twice]; exact Fr5) Nr5
      · exact hR _ _ u5 (by rw [hq, List.append_nil, upd_twice]; exact Fr5) Nr5
  · intro h' tk' tb F' N'
    dsimp only
    k_extra "k_steps"
    rename_i Dn hy F5 N5 l5
    have N6 := oth_ledger N5
    clear N5
    refine draw (by k_asm) (by k_asm) (by k_asm) N6 (by k_asm) rfl (by k_extra "ktr_room") (by k_extra "ktr_room") (fun p hp => by
      simp only [List.mem_cons, List.not_mem_nil, or_false] at hp
      rcases hp with rfl | rfl | rfl
      · exact Nat.ne_of_gt l5.2.2
      · exact Ne.symm qe.1
      · exact Ne.symm qe.2) hT2 (fr_stays (by k_asm) _ _ hin0) hio (by decide) fun w2 uw2 h' tk' o3 hw20 hw21 F' N' hT3 hst => ?_
    k_extra "k_steps"
    refine item_any (fun v => ∃ f : List UInt8, (f = [] ∨ f = [10]) ∧ BytV f v) (by k_asm) (by k_mem) hw20 (by simpa using hw21) (by show 2 ≤ _; omega) (fun v hv => ?_) ?_
    · simp only [List.mem_cons, List.not_mem_nil, or_false] at hv
      rcases hv with rfl | rfl
      · exact ⟨[10], .inr rfl, _, rfl⟩
      · exact ⟨[], .inl rfl, _, rfl⟩
    rintro _ ⟨f, hf, uf, rfl⟩
    have hfl : f.length ≤ 1 := by rcases hf with rfl | rfl <;> simp
    k_extra "k_steps"
    refine Spec.use (law_line_spec (crow c ++ XX ++ f) _ (by simp only [List.length_append, List.length_cons, List.length_nil]; omega)) (by k_asm) (by k_asm) (by k_asm) (by k_asm) (by k_asm) rfl (by k_extra "ktr_room") (by k_extra "ktr_room") trivial ?_ (fun x => x.elim)
    rintro r tl h' tk' F' N' hsep hst hst'
    obtain ⟨rfl, u6, rfl⟩ := hst'
    have hll : (lineL (crow c ++ XX ++ f)).length ≤ 400 := by simp only [lineL, figs, List.length_append, List.length_cons, List.length_nil]; omega
    have hsn := hoth.snoc hc hf
    k_extra "k_steps"
    rename_i F7 N7
    refine' hnext .next _ _ _ _ (.inl rfl) F7 ?ln1 ?hn1 ?st1 ⟨o3, _, ?tk1, some (.int (i : Int) uk), some (.ref x), some (.bytes (crow c ++ XX).toArray ?ob1), rfl, hT3, hsn, funext ?fz1⟩
    case fz1 =>
      intro z
      (try dsimp only [ovr, upd])
      by_cases e1 : z = Str.ofString "octets"
      · subst e1
        have er : lines.flatten ++ lineL (crow c ++ XX ++ f) = (lines ++ [lineL (crow c ++ (if i = 0 ∧ bare = false then [0] ++ joinL [32, 32] words ++ [32] else []) ++ f)]).flatten := by
          rw [List.flatten_append, ← hXX]; simp
        exact congrArg (fun b : List UInt8 => some (Value.bytes b.toArray _)) er
      · by_cases e2 : z = Str.ofString "row"
        · subst e2; rfl
        · by_cases e3 : z = Str.ofString "command"
          · subst e3; rfl
          · by_cases e4 : z = Str.ofString "k"
            · subst e4; rfl
            · simp only [e1, e2, e3, e4, if_false]
    case ln1 => exact news_weak N7 (by simp)
    case hn1 => exact fun p hp => by rw [List.mem_singleton.mp hp]; exact qe
    case st1 => exact fun p hp => by rw [List.mem_singleton.mp hp]; exact fr_stays F7 _ _ hlc0
theorem all : ∀ a0 a1 a2 a3 a4 a5 a6 a7 a8 a9 a10 a11 a12 a13 a14 a15 a16 a17 a18 a19 a20 a21 a22 a23 a24 a25 a26 a27 a28 a29 a30, (skmain_sb1.1.1) a0 a1 a2 a3 a4 a5 a6 a7 a8 a9 a10 a11 a12 a13 a14 a15 a16 a17 a18 a19 a20 a21 a22 a23 a24 a25 a26 a27 a28 a29 a30 := by
  have q1 : (fun q : (Int) × (Heap) × (Nat) × (Obj) × (Addr) × (Heap) × (Addr) × (Addr) × (Heap) × (Nat) × (Tok) × (Heap) × (Nat) × (Addr) × (Addr) × (Obj) × (Obj) × (Flow → Shared → Prop) × (Value → Shared → Prop) × (Obj) × (List (List UInt8)) × (Tok) × (Option Value) × (Option Value) × (Option Value) × (Cmd) × (Addr) × (Tok) × (Tok) × (Tok) × (Nat) × Unit => (skmain_sb1.1.1) q.1 q.2.1 q.2.2.1 q.2.2.2.1 q.2.2.2.2.1 q.2.2.2.2.2.1 q.2.2.2.2.2.2.1 q.2.2.2.2.2.2.2.1 q.2.2.2.2.2.2.2.2.1 q.2.2.2.2.2.2.2.2.2.1 q.2.2.2.2.2.2.2.2.2.2.1 q.2.2.2.2.2.2.2.2.2.2.2.1 q.2.2.2.2.2.2.2.2.2.2.2.2.1 q.2.2.2.2.2.2.2.2.2.2.2.2.2.1 q.2.2.2.2.2.2.2.2.2.2.2.2.2.2.1 q.2.2.2.2.2.2.2.2.2.2.2.2.2.2.2.1 q.2.2.2.2.2.2.2.2.2.2.2.2.2.2.2.2.1 q.2.2.2.2.2.2.2.2.2.2.2.2.2.2.2.2.2.1 q.2.2.2.2.2.2.2.2.2.2.2.2.2.2.2.2.2.2.1 q.2.2.2.2.2.2.2.2.2.2.2.2.2.2.2.2.2.2.2.1 q.2.2.2.2.2.2.2.2.2.2.2.2.2.2.2.2.2.2.2.2.1 q.2.2.2.2.2.2.2.2.2.2.2.2.2.2.2.2.2.2.2.2.2.1 q.2.2.2.2.2.2.2.2.2.2.2.2.2.2.2.2.2.2.2.2.2.2.1 q.2.2.2.2.2.2.2.2.2.2.2.2.2.2.2.2.2.2.2.2.2.2.2.1 q.2.2.2.2.2.2.2.2.2.2.2.2.2.2.2.2.2.2.2.2.2.2.2.2.1 q.2.2.2.2.2.2.2.2.2.2.2.2.2.2.2.2.2.2.2.2.2.2.2.2.2.1 q.2.2.2.2.2.2.2.2.2.2.2.2.2.2.2.2.2.2.2.2.2.2.2.2.2.2.1 q.2.2.2.2.2.2.2.2.2.2.2.2.2.2.2.2.2.2.2.2.2.2.2.2.2.2.2.1 q.2.2.2.2.2.2.2.2.2.2.2.2.2.2.2.2.2.2.2.2.2.2.2.2.2.2.2.2.1 q.2.2.2.2.2.2.2.2.2.2.2.2.2.2.2.2.2.2.2.2.2.2.2.2.2.2.2.2.2.1 q.2.2.2.2.2.2.2.2.2.2.2.2.2.2.2.2.2.2.2.2.2.2.2.2.2.2.2.2.2.2.1) (pick ⟨⟨default, default, default, default, default, default, default, default, default, default, default, default, default, default, default, default, default, default, default, default, default, default, default, default, default, default, default, default, default, default, default, ()⟩⟩ fun q => (skmain_sb1.1.1) q.1 q.2.1 q.2.2.1 q.2.2.2.1 q.2.2.2.2.1 q.2.2.2.2.2.1 q.2.2.2.2.2.2.1 q.2.2.2.2.2.2.2.1 q.2.2.2.2.2.2.2.2.1 q.2.2.2.2.2.2.2.2.2.1 q.2.2.2.2.2.2.2.2.2.2.1 q.2.2.2.2.2.2.2.2.2.2.2.1 q.2.2.2.2.2.2.2.2.2.2.2.2.1 q.2.2.2.2.2.2.2.2.2.2.2.2.2.1 q.2.2.2.2.2.2.2.2.2.2.2.2.2.2.1 q.2.2.2.2.2.2.2.2.2.2.2.2.2.2.2.1 q.2.2.2.2.2.2.2.2.2.2.2.2.2.2.2.2.1 q.2.2.2.2.2.2.2.2.2.2.2.2.2.2.2.2.2.1 q.2.2.2.2.2.2.2.2.2.2.2.2.2.2.2.2.2.2.1 q.2.2.2.2.2.2.2.2.2.2.2.2.2.2.2.2.2.2.2.1 q.2.2.2.2.2.2.2.2.2.2.2.2.2.2.2.2.2.2.2.2.1 q.2.2.2.2.2.2.2.2.2.2.2.2.2.2.2.2.2.2.2.2.2.1 q.2.2.2.2.2.2.2.2.2.2.2.2.2.2.2.2.2.2.2.2.2.2.1 q.2.2.2.2.2.2.2.2.2.2.2.2.2.2.2.2.2.2.2.2.2.2.2.1 q.2.2.2.2.2.2.2.2.2.2.2.2.2.2.2.2.2.2.2.2.2.2.2.2.1 q.2.2.2.2.2.2.2.2.2.2.2.2.2.2.2.2.2.2.2.2.2.2.2.2.2.1 q.2.2.2.2.2.2.2.2.2.2.2.2.2.2.2.2.2.2.2.2.2.2.2.2.2.2.1 q.2.2.2.2.2.2.2.2.2.2.2.2.2.2.2.2.2.2.2.2.2.2.2.2.2.2.2.1 q.2.2.2.2.2.2.2.2.2.2.2.2.2.2.2.2.2.2.2.2.2.2.2.2.2.2.2.2.1 q.2.2.2.2.2.2.2.2.2.2.2.2.2.2.2.2.2.2.2.2.2.2.2.2.2.2.2.2.2.1 q.2.2.2.2.2.2.2.2.2.2.2.2.2.2.2.2.2.2.2.2.2.2.2.2.2.2.2.2.2.2.1) := by with_unfolding_all exact main
  exact fun a0 a1 a2 a3 a4 a5 a6 a7 a8 a9 a10 a11 a12 a13 a14 a15 a16 a17 a18 a19 a20 a21 a22 a23 a24 a25 a26 a27 a28 a29 a30 => pick_spec (P := fun q : (Int) × (Heap) × (Nat) × (Obj) × (Addr) × (Heap) × (Addr) × (Addr) × (Heap) × (Nat) × (Tok) × (Heap) × (Nat) × (Addr) × (Addr) × (Obj) × (Obj) × (Flow → Shared → Prop) × (Value → Shared → Prop) × (Obj) × (List (List UInt8)) × (Tok) × (Option Value) × (Option Value) × (Option Value) × (Cmd) × (Addr) × (Tok) × (Tok) × (Tok) × (Nat) × Unit => (skmain_sb1.1.1) q.1 q.2.1 q.2.2.1 q.2.2.2.1 q.2.2.2.2.1 q.2.2.2.2.2.1 q.2.2.2.2.2.2.1 q.2.2.2.2.2.2.2.1 q.2.2.2.2.2.2.2.2.1 q.2.2.2.2.2.2.2.2.2.1 q.2.2.2.2.2.2.2.2.2.2.1 q.2.2.2.2.2.2.2.2.2.2.2.1 q.2.2.2.2.2.2.2.2.2.2.2.2.1 q.2.2.2.2.2.2.2.2.2.2.2.2.2.1 q.2.2.2.2.2.2.2.2.2.2.2.2.2.2.1 q.2.2.2.2.2.2.2.2.2.2.2.2.2.2.2.1 q.2.2.2.2.2.2.2.2.2.2.2.2.2.2.2.2.1 q.2.2.2.2.2.2.2.2.2.2.2.2.2.2.2.2.2.1 q.2.2.2.2.2.2.2.2.2.2.2.2.2.2.2.2.2.2.1 q.2.2.2.2.2.2.2.2.2.2.2.2.2.2.2.2.2.2.2.1 q.2.2.2.2.2.2.2.2.2.2.2.2.2.2.2.2.2.2.2.2.1 q.2.2.2.2.2.2.2.2.2.2.2.2.2.2.2.2.2.2.2.2.2.1 q.2.2.2.2.2.2.2.2.2.2.2.2.2.2.2.2.2.2.2.2.2.2.1 q.2.2.2.2.2.2.2.2.2.2.2.2.2.2.2.2.2.2.2.2.2.2.2.1 q.2.2.2.2.2.2.2.2.2.2.2.2.2.2.2.2.2.2.2.2.2.2.2.2.1 q.2.2.2.2.2.2.2.2.2.2.2.2.2.2.2.2.2.2.2.2.2.2.2.2.2.1 q.2.2.2.2.2.2.2.2.2.2.2.2.2.2.2.2.2.2.2.2.2.2.2.2.2.2.1 q.2.2.2.2.2.2.2.2.2.2.2.2.2.2.2.2.2.2.2.2.2.2.2.2.2.2.2.1 q.2.2.2.2.2.2.2.2.2.2.2.2.2.2.2.2.2.2.2.2.2.2.2.2.2.2.2.2.1 q.2.2.2.2.2.2.2.2.2.2.2.2.2.2.2.2.2.2.2.2.2.2.2.2.2.2.2.2.2.1 q.2.2.2.2.2.2.2.2.2.2.2.2.2.2.2.2.2.2.2.2.2.2.2.2.2.2.2.2.2.2.1) (ne := ⟨⟨default, default, default, default, default, default, default, default, default, default, default, default, default, default, default, default, default, default, default, default, default, default, default, default, default, default, default, default, default, default, default, ()⟩⟩) q1 ⟨a0, a1, a2, a3, a4, a5, a6, a7, a8, a9, a10, a11, a12, a13, a14, a15, a16, a17, a18, a19, a20, a21, a22, a23, a24, a25, a26, a27, a28, a29, a30, ()⟩
end skmain_a
namespace skmain_b
noncomputable def c0 : (Int) × (Heap) × (Nat) × (Obj) × (Addr) × (Heap) × (Addr) × (Addr) × (Heap) × (Heap) × (Nat) × (Obj) × (List (List UInt8)) × (Tok) × (Option Value) × (Option Value) × (Option Value) × Unit := pick ⟨⟨default, default, default, default, default, default, default, default, default, default, default, default, default, default, default, default, default, ()⟩⟩ fun q => (skmain_sb1.1.2) q.1 q.2.1 q.2.2.1 q.2.2.2.1 q.2.2.2.2.1 q.2.2.2.2.2.1 q.2.2.2.2.2.2.1 q.2.2.2.2.2.2.2.1 q.2.2.2.2.2.2.2.2.1 q.2.2.2.2.2.2.2.2.2.1 q.2.2.2.2.2.2.2.2.2.2.1 q.2.2.2.2.2.2.2.2.2.2.2.1 q.2.2.2.2.2.2.2.2.2.2.2.2.1 q.2.2.2.2.2.2.2.2.2.2.2.2.2.1 q.2.2.2.2.2.2.2.2.2.2.2.2.2.2.1 q.2.2.2.2.2.2.2.2.2.2.2.2.2.2.2.1 q.2.2.2.2.2.2.2.2.2.2.2.2.2.2.2.2.1
@[irreducible] noncomputable def w1 : Int := c0.1
@[irreducible] noncomputable def z0 : Heap := c0.2.1
@[irreducible] noncomputable def z1 : Nat := c0.2.2.1
@[irreducible] noncomputable def o1 : Obj := c0.2.2.2.1
@[irreducible] noncomputable def z2 : Addr := c0.2.2.2.2.1
@[irreducible] noncomputable def z7 : Heap := c0.2.2.2.2.2.1
@[irreducible] noncomputable def e : Addr := c0.2.2.2.2.2.2.1
@[irreducible] noncomputable def it : Addr := c0.2.2.2.2.2.2.2.1
@[irreducible] noncomputable def z8 : Heap := c0.2.2.2.2.2.2.2.2.1
@[irreducible] noncomputable def h' : Heap := c0.2.2.2.2.2.2.2.2.2.1
@[irreducible] noncomputable def tk' : Nat := c0.2.2.2.2.2.2.2.2.2.2.1
@[irreducible] noncomputable def o2 : Obj := c0.2.2.2.2.2.2.2.2.2.2.2.1
@[irreducible] noncomputable def lines : List (List UInt8) := c0.2.2.2.2.2.2.2.2.2.2.2.2.1
@[irreducible] noncomputable def t9 : Tok := c0.2.2.2.2.2.2.2.2.2.2.2.2.2.1
@[irreducible] noncomputable def ok9 : Option Value := c0.2.2.2.2.2.2.2.2.2.2.2.2.2.2.1
@[irreducible] noncomputable def oc9 : Option Value := c0.2.2.2.2.2.2.2.2.2.2.2.2.2.2.2.1
@[irreducible] noncomputable def ob9 : Option Value := c0.2.2.2.2.2.2.2.2.2.2.2.2.2.2.2.2.1
theorem main : (skmain_sb1.1.2) w1 z0 z1 o1 z2 z7 e it z8 h' tk' o2 lines t9 ok9 oc9 ob9 := by
  intro hn hcl hok hwl hwk hpk hrw hpure XB TB D hk hd hu hT hi hio hret hit D1 B1 X1 T1 hL1 hlt hlwt hlc hrel hlw hlc0 hlw0 hin0 hrel0 hvl hwvl hw0 hw1 hT1 hst z4 N4 bare hbw F3 he hit' z9 z10 hstE he0 hi0 hei hws hcr hT2 hoth hS F' N' et ho ho3
  have hvi : vs.isEmpty = decide (cmds = []) := cond_eq hvl
  obtain ⟨P1, P2, P3, P4, P5, P6⟩ := hpure bare lines hoth
  refine wpAny_execs_cons ?_
  refine mono_namedA F' (fun m f s₃ => f = .next ∧ ∃ h tk Dd Xa nX wv ex, s₃ = { s with heap := h, toks := tk } ∧ Fr (hideAll s.heap [t]) L' h (fun y => if y = Str.ofString "due" then some (.ref Dd) else m y) ∧
    News (hideAll s.heap [t]) L' h ((Dd, tupO #[.ref lc, .ref Xa, .bytes pk.toArray up] 0) :: (t, o2) :: ex) ∧ Rel2 (fun wd v => TxtV (tx wd) v) (if bare = true ∨ cmds = [] then [] else words) wv ∧
    ((Xa = lw ∧ wv = wvs ∧ nX = nw) ∨ (Xa, listOf wv.toArray nX) ∈ ex)) ?_ ?_
  · intro R hR
    cases bare with
    | true =>
      k_extra "k_steps"
      rename_i F7 N7
      exact hR _ _ ⟨rfl, _, _, _, _, 0, [], _, rfl, F7, oth_due N7, by rw [if_pos (.inl rfl)]; trivial, .inr List.mem_cons_self⟩
    | false =>
      k_extra "k_steps"
      rename_i F6 N6 l6
      refine eq_empty (xs := vs) ⟨listOf vs.toArray nc, fr_stays (by k_asm) _ _ hlc0, rfl, nc, rfl⟩ (News.isList (items := #[]) N6 (by k_mem)) (by k_extra "ktr_room") ?_
      cases hvs : vs.isEmpty with
      | true =>
        have hcn : cmds = [] := by rw [hvs] at hvi; simpa using hvi.symm
        k_extra "k_steps"
        rename_i F7 N7
        exact hR _ _ ⟨rfl, _, _, _, _, 0, [], _, rfl, F7, oth_due N7, by rw [if_pos (.inr hcn)]; trivial, .inr (List.mem_cons_self)⟩
      | false =>
        have hcn : cmds ≠ [] := by rw [hvs] at hvi; simpa using hvi.symm
        k_extra "k_steps"
        rename_i F7 N7
        exact hR _ _ ⟨rfl, _, _, _, _, nw, wvs, _, rfl, F7, oth_due N7, by rw [if_neg (by rintro (h | h); cases h; exact hcn h)]; exact hrw, .inl ⟨rfl, rfl, rfl⟩⟩
  · rintro f s₃ ⟨rfl, h, tk, Dd, Xa, nX, wv, ex, rfl, F', N', hrwv, hXa⟩
    dsimp only
    have B2 : Below (ktrTop dp un gd cn cs L a ccd cl outer) base (envX cn cs L a ccd cl :: outer) (hideAll s.heap [t]) := B1
    have X2 : (_root_.Mine.hd.heap_1 w.params).In (hideAll s.heap [t]) := X1
    have T2 : Top _root_.Mine.vw LO mean mg mb (hideAll s.heap [t]) := T1
    k_extra "k_steps"
    refine USpec.use (law_request_spec (lines.flatten ++ [48, 48, 48, 48] ++ pk) _ _ n (by simp only [List.length_append, List.length_cons, List.length_nil]; omega) (by omega)) B2 (by k_asm) XB (by exact N') TB D1 rfl (by k_extra "ktr_room") (by k_extra "ktr_room") trivial ?_
    rintro r tl h' tk' g2 Tn2 B3 F' N' X3 T3 D3 hsep4 Ef hreq
    rw [P1] at hreq
    have hreq' : ReqT (cmds, if bare = true ∨ cmds = [] then [] else words, pk) r tl := hreq
    clear hreq
    have hlc2 := F'.keep _ _ (turn_keep D1 Tn2 hlc0 (fun _ _ z => by cases z))
    have hlw2 := F'.keep _ _ (turn_keep D1 Tn2 hlw0 (fun _ _ z => by cases z))
    have hX2 : h'.get? Xa = some (listOf wv.toArray nX) := by
      rcases hXa with ⟨rfl, rfl, rfl⟩ | hXa
      · exact hlw2
      · exact (N' _ (List.mem_append_right _ (List.mem_cons_of_mem _ (List.mem_cons_of_mem _ hXa)))).1
    have hrel2 := hrel0.mono fun _ _ => CmdH.mono (h' := h') fun b o e hd' _ => F'.keep _ _ (turn_keep D1 Tn2 e hd')
    have hig2 := turn_keep D1 Tn2 hin0 (fun _ _ z => by obtain ⟨items, n2, hic, hid, _⟩ := hio; rw [hid] at z; cases z)
    clear B1 X1 T1 B2 X2 T2
    k_extra "k_steps"
    refine (eq_req hreq' (fun p hp => (N' p (List.mem_append_left _ hp)).1) (N' _ (List.mem_append_right _ List.mem_cons_self)).1 hlc2 hX2 hrel2 hrwv (by k_extra "ktr_room")).2 ?_
    have N9 : News g2 L' _ [(t, o2)] := news_weak N' fun p hp => List.mem_append_right _ (List.mem_cons_of_mem _ (by rw [List.mem_singleton.mp hp]; exact List.mem_cons_self))
    clear N'
    k_extra "k_steps"
    refine draw (by k_asm) (by k_asm) (by k_asm) N9 (by k_asm) rfl (by k_extra "ktr_room") (by k_extra "ktr_room") (List.forall_mem_nil _) hT2 (fr_stays (by k_asm) _ _ hig2) hio (by omega) fun w3 uw3 h' tk' o3 hw30 hw31 F' N' hT3 hst => ?_
    k_extra "k_steps"
    have er2 : (List.replicate ((n : Int)).toNat [(48 : UInt8), 48]).flatten = List.replicate (2 * n) 48 := by rw [Int.toNat_natCast, rep_two]
    have er4 : (List.replicate ((n : Int)).toNat [(48 : UInt8), 48, 48, 48]).flatten = List.replicate (4 * n) 48 := by rw [Int.toNat_natCast, rep_four]
    have hrl2 : (List.replicate (2 * n) (48 : UInt8)).length = 2 * n := List.length_replicate
    have hrl4 : (List.replicate (4 * n) (48 : UInt8)).length = 4 * n := List.length_replicate
    rw [er2]
    k_extra "k_steps"
    rename_i Dn hy F5 N5 l5
    rw [er4] at N5
    obtain ⟨N6, hr6⟩ := tape_front N5 l5 (List.forall_mem_nil _)
    clear N5
    refine draw (by k_asm) (by k_asm) (by k_asm) N6 (by k_asm) rfl (by k_extra "ktr_room") (by k_extra "ktr_room") hr6 hT3 (fr_stays (by k_asm) _ _ hig2) hio (by decide) fun w4 uw4 h' tk' o4 hw40 hw41 F' N' hT4 hst => ?_
    k_extra "k_steps"
    refine item_any (fun v => ∃ f : List UInt8, (f = [115, 104, 97, 108, 108, 111, 119, 32] ++ List.replicate (2 * n) 48 ∨ f = [10] ∨ f = List.replicate (4 * n) 48) ∧ BytV f v) (by k_asm) (by k_mem) hw40 (by simpa using hw41) (by show 3 ≤ _; omega) (fun v hv => ?_) ?_
    · simp only [List.mem_cons, List.not_mem_nil, or_false] at hv
      rcases hv with rfl | rfl | rfl
      · exact ⟨_, .inl rfl, _, rfl⟩
      · exact ⟨_, .inr (.inl rfl), _, rfl⟩
      · exact ⟨_, .inr (.inr rfl), _, rfl⟩
    rintro _ ⟨od, hod, uo, rfl⟩
    have hodl : od.length ≤ 30 := by
      rcases hod with rfl | rfl | rfl <;> simp only [List.length_append, List.length_cons, List.length_nil, List.length_replicate] <;> omega
    have N8 : News g2 L' _ [(t, o4)] := news_weak N' (by simp)
    clear N'
    k_extra "k_steps"
    refine Spec.use (law_line_spec od _ (by omega)) (by k_asm) (by k_asm) (by k_asm) (by k_asm) (by k_asm) rfl (by k_extra "ktr_room") (by k_extra "ktr_room") trivial ?_ (fun x => x.elim)
    rintro r tl h' tk' F' N' hsep hst hst'
    obtain ⟨rfl, u6, rfl⟩ := hst'
    have hll : (lineL od).length ≤ 40 := by simp only [lineL, figs, List.length_append, List.length_cons, List.length_nil]; omega
    dsimp only [List.nil_append] at N'
    k_extra "k_steps"
    refine for_ruleU (by k_asm) (by rfl) (by rfl) ?_
    k_extra "k_steps"
    rename_i F9 N9 l9
    have ecut : cutL (lines.flatten ++ [48, 48, 48, 48]) none (some w3) = (lines.flatten ++ [48, 48, 48, 48]).take w3.toNat := cutL_up (by omega)
    have hxs : ∀ b ∈ [cutL (lines.flatten ++ [48, 48, 48, 48]) none (some w3), lines.flatten ++ [48, 48, 48, 49] ++ pk, lines.flatten ++ [48, 48, 48, 50] ++ pk, lines.flatten ++ lineL od ++ [48, 48, 48, 48], 48 :: 48 :: 48 :: 49 :: (lines.flatten ++ [48, 48, 48, 48])], b.length ≤ 2000 ∧ rq b n = none := fun b hb => by
      simp only [List.mem_cons, List.not_mem_nil, or_false] at hb
      rcases hb with rfl | rfl | rfl | rfl | rfl
      · refine ⟨?_, by rw [ecut]; exact P2 _ (by omega)⟩
        rw [ecut, List.length_take]
        simp only [List.length_append, List.length_cons, List.length_nil]; omega
      · exact ⟨by simp only [List.length_append, List.length_cons, List.length_nil]; omega, P3⟩
      · exact ⟨by simp only [List.length_append, List.length_cons, List.length_nil]; omega, P4⟩
      · exact ⟨by simp only [List.length_append, List.length_cons, List.length_nil]; omega, P5 _ hod⟩
      · exact ⟨by simp only [List.length_append, List.length_cons, List.length_nil]; omega, by simpa using P6⟩
    refine ForGoU.inv (σ := Unit) (xs := [cutL (lines.flatten ++ [48, 48, 48, 48]) none (some w3), lines.flatten ++ [48, 48, 48, 49] ++ pk, lines.flatten ++ [48, 48, 48, 50] ++ pk, lines.flatten ++ lineL od ++ [48, 48, 48, 48], 48 :: 48 :: 48 :: 49 :: (lines.flatten ++ [48, 48, 48, 48])]) (V := BytV)
      (fun i g st => Below (ktrTop dp un gd cn cs L a ccd cl outer) base (envX cn cs L a ccd cl :: outer) g ∧ KtsTurn ((envX cn cs L a ccd cl :: outer).filterMap (·.frame)) (hideAll s.heap [t]) g)
      (fun _ => []) (fun _ => [_, (t, o4)]) () (IterOf.rel (ys := [_, _, _, _, _]) (G := BytV) ⟨⟨_, rfl⟩, ⟨_, rfl⟩, ⟨_, rfl⟩, ⟨_, rfl⟩, ⟨_, rfl⟩, trivial⟩ (iter_tuple rfl (N9 _ List.mem_cons_self).1 rfl rfl)) (by exact F9) (by exact N9) (fun _ => rfl) ⟨by k_asm, Tn2⟩ ?_ ?_
    · intro i2 b v2 g4 st4 h4 tk4 hb4 hz0 hz1 hS4 J2 oJ2 Q2 E2 F' N' hne2 hnext2 hbrk2 hret2
      obtain ⟨ub4, rfl⟩ := hz0
      obtain ⟨B4, Tn4⟩ := hz1
      obtain ⟨hbl, hbn⟩ := hxs b (List.mem_of_getElem? hb4)
      clear hxs
      dsimp only [ovr] at *
      have X4 := XB.keeps B4.stays
      have T4 := TB.keeps B4.stays
      have D4 := D1.turn Tn4
      try clear X3 T3 B3 D3
      try clear F9 N9
      k_extra "k_steps"
      refine USpec.use (law_request_spec b _ _ n (by omega) (by omega)) B4 (by k_asm) XB N' TB D4 rfl (by k_extra "ktr_room") (by k_extra "ktr_room") trivial ?_
      rintro r tl h' tk' g5 Tn5 B5 F' N' X5 T5 D5 hsep5 Ef hreq
      rw [hbn] at hreq
      have e1 : r = .none := hreq
      subst e1
      try clear X4 T4
      k_extra "k_steps"
      exact hnext2 g5 () .next _ _ _ (.inl rfl) F' (fun z hz => by (try dsimp only [upd]); rw [if_neg hz]) (news_weak N' fun p hp => List.mem_append_right _ hp) hne2 (fun p hp => by
        rw [List.mem_singleton.mp hp]
        exact (N' _ (List.mem_append_right _ (List.mem_cons_of_mem _ List.mem_cons_self))).1) ⟨B5, Tn4.trans Tn5⟩
    · rintro g4 st4 o9 h4 tk4 ⟨B4, Tn4⟩ hS4 F' N'
      dsimp only [ovr] at *
      k_extra "k_steps"
      (try dsimp only)
      exact hret _ _ _ o4 (eff_retW Tn4 F') (N' (t, o4) (List.mem_cons_of_mem _ List.mem_cons_self)).1 hT4 rfl
theorem all : ∀ a0 a1 a2 a3 a4 a5 a6 a7 a8 a9 a10 a11 a12 a13 a14 a15 a16, (skmain_sb1.1.2) a0 a1 a2 a3 a4 a5 a6 a7 a8 a9 a10 a11 a12 a13 a14 a15 a16 := by
  have q1 : (fun q : (Int) × (Heap) × (Nat) × (Obj) × (Addr) × (Heap) × (Addr) × (Addr) × (Heap) × (Heap) × (Nat) × (Obj) × (List (List UInt8)) × (Tok) × (Option Value) × (Option Value) × (Option Value) × Unit => (skmain_sb1.1.2) q.1 q.2.1 q.2.2.1 q.2.2.2.1 q.2.2.2.2.1 q.2.2.2.2.2.1 q.2.2.2.2.2.2.1 q.2.2.2.2.2.2.2.1 q.2.2.2.2.2.2.2.2.1 q.2.2.2.2.2.2.2.2.2.1 q.2.2.2.2.2.2.2.2.2.2.1 q.2.2.2.2.2.2.2.2.2.2.2.1 q.2.2.2.2.2.2.2.2.2.2.2.2.1 q.2.2.2.2.2.2.2.2.2.2.2.2.2.1 q.2.2.2.2.2.2.2.2.2.2.2.2.2.2.1 q.2.2.2.2.2.2.2.2.2.2.2.2.2.2.2.1 q.2.2.2.2.2.2.2.2.2.2.2.2.2.2.2.2.1) (pick ⟨⟨default, default, default, default, default, default, default, default, default, default, default, default, default, default, default, default, default, ()⟩⟩ fun q => (skmain_sb1.1.2) q.1 q.2.1 q.2.2.1 q.2.2.2.1 q.2.2.2.2.1 q.2.2.2.2.2.1 q.2.2.2.2.2.2.1 q.2.2.2.2.2.2.2.1 q.2.2.2.2.2.2.2.2.1 q.2.2.2.2.2.2.2.2.2.1 q.2.2.2.2.2.2.2.2.2.2.1 q.2.2.2.2.2.2.2.2.2.2.2.1 q.2.2.2.2.2.2.2.2.2.2.2.2.1 q.2.2.2.2.2.2.2.2.2.2.2.2.2.1 q.2.2.2.2.2.2.2.2.2.2.2.2.2.2.1 q.2.2.2.2.2.2.2.2.2.2.2.2.2.2.2.1 q.2.2.2.2.2.2.2.2.2.2.2.2.2.2.2.2.1) := by with_unfolding_all exact main
  exact fun a0 a1 a2 a3 a4 a5 a6 a7 a8 a9 a10 a11 a12 a13 a14 a15 a16 => pick_spec (P := fun q : (Int) × (Heap) × (Nat) × (Obj) × (Addr) × (Heap) × (Addr) × (Addr) × (Heap) × (Heap) × (Nat) × (Obj) × (List (List UInt8)) × (Tok) × (Option Value) × (Option Value) × (Option Value) × Unit => (skmain_sb1.1.2) q.1 q.2.1 q.2.2.1 q.2.2.2.1 q.2.2.2.2.1 q.2.2.2.2.2.1 q.2.2.2.2.2.2.1 q.2.2.2.2.2.2.2.1 q.2.2.2.2.2.2.2.2.1 q.2.2.2.2.2.2.2.2.2.1 q.2.2.2.2.2.2.2.2.2.2.1 q.2.2.2.2.2.2.2.2.2.2.2.1 q.2.2.2.2.2.2.2.2.2.2.2.2.1 q.2.2.2.2.2.2.2.2.2.2.2.2.2.1 q.2.2.2.2.2.2.2.2.2.2.2.2.2.2.1 q.2.2.2.2.2.2.2.2.2.2.2.2.2.2.2.1 q.2.2.2.2.2.2.2.2.2.2.2.2.2.2.2.2.1) (ne := ⟨⟨default, default, default, default, default, default, default, default, default, default, default, default, default, default, default, default, default, ()⟩⟩) q1 ⟨a0, a1, a2, a3, a4, a5, a6, a7, a8, a9, a10, a11, a12, a13, a14, a15, a16, ()⟩
end skmain_b
theorem skmain : skP w mean mg mb dp un gd cn cs a ccd cl outer A₀ base h₀ L m s Q E o io t inner lc lw u up n nc nw cmds vs words wvs pk := skmain_sb1.2 skmain_a.all skmain_b.all
theorem skall : skP skc.1.w skc.1.mean skc.1.mg skc.1.mb skc.1.dp skc.1.un skc.1.gd skc.1.cn skc.1.cs skc.1.a skc.1.ccd skc.1.cl skc.1.outer skc.1.A₀ skc.1.base skc.1.h₀ skc.1.L skc.1.m skc.1.s skc.1.Q skc.1.E skc.1.o skc.1.io skc.2.1 skc.2.2.1 skc.2.2.2.1 skc.2.2.2.2.1 skc.2.2.2.2.2.1 skc.2.2.2.2.2.2.1 skc.2.2.2.2.2.2.2.1 skc.2.2.2.2.2.2.2.2.1 skc.2.2.2.2.2.2.2.2.2.1 skc.2.2.2.2.2.2.2.2.2.2.1 skc.2.2.2.2.2.2.2.2.2.2.2.1 skc.2.2.2.2.2.2.2.2.2.2.2.2.1 skc.2.2.2.2.2.2.2.2.2.2.2.2.2.1 skc.2.2.2.2.2.2.2.2.2.2.2.2.2.2.1 := by
  with_unfolding_all exact skmain
end law_other_specK
theorem law_other_spec {w : World} {mean : ExcName → Option Value} {mg mb : Str → Option Value} (t inner lc lw : Addr) (u up : Tok) (n nc nw : Nat) (cmds : List Cmd) (vs : List Value) (words : List (List UInt8)) (wvs : List Value) (pk : List UInt8)
    (hn : n ≤ 4) (hcl : cmds.length ≤ 4) (hok : ∀ c ∈ cmds, okCmd n c) (hwl : words.length ≤ 4) (hwk : ∀ x ∈ words, x ∈ lawWords) (hpk : pk.length ≤ 5) (hrw : Rel2 (fun wd v => TxtV (tx wd) v) words wvs) (hpure : OthPure n cmds words pk) :
    UTSpec w mean mg mb 9 284 [.ref t, .ref lc, .ref lw, .bytes pk.toArray up, .int (n : Int) u] t inner (fun h => lc ≠ t ∧ lw ≠ t ∧ h.get? lc = some (listOf vs.toArray nc) ∧ Rel2 (CmdH h) cmds vs ∧ h.get? lw = some (listOf wvs.toArray nw)) (fun r => r = .bool true) := by
  intro dp un gd cn cs a ccd cl outer A₀ base h₀ L m s Q E o io
  exact pick_spec (P := fun p : Cx × (Addr) × (Addr) × (Addr) × (Addr) × (Tok) × (Tok) × (Nat) × (Nat) × (Nat) × (List Cmd) × (List Value) × (List (List UInt8)) × (List Value) × (List UInt8) × Unit => law_other_specK.skP p.1.w p.1.mean p.1.mg p.1.mb p.1.dp p.1.un p.1.gd p.1.cn p.1.cs p.1.a p.1.ccd p.1.cl p.1.outer p.1.A₀ p.1.base p.1.h₀ p.1.L p.1.m p.1.s p.1.Q p.1.E p.1.o p.1.io p.2.1 p.2.2.1 p.2.2.2.1 p.2.2.2.2.1 p.2.2.2.2.2.1 p.2.2.2.2.2.2.1 p.2.2.2.2.2.2.2.1 p.2.2.2.2.2.2.2.2.1 p.2.2.2.2.2.2.2.2.2.1 p.2.2.2.2.2.2.2.2.2.2.1 p.2.2.2.2.2.2.2.2.2.2.2.1 p.2.2.2.2.2.2.2.2.2.2.2.2.1 p.2.2.2.2.2.2.2.2.2.2.2.2.2.1 p.2.2.2.2.2.2.2.2.2.2.2.2.2.2.1) law_other_specK.skall (⟨w, mean, mg, mb, dp, un, gd, cn, cs, a, ccd, cl, outer, A₀, base, h₀, L, m, s, Q, E, o, io⟩, t, inner, lc, lw, u, up, n, nc, nw, cmds, vs, words, wvs, pk, ()) hn hcl hok hwl hwk hpk hrw hpure
end
section
variable {w : World} {mean : ExcName → Option Value} {mg mb : Str → Option Value}
end
end
section
set_option maxHeartbeats 4000000
theorem figN_hx (k : Nat) (h : k < 16) : figN (hx k) = some k := by
  have : ∀ k < 16, figN (hx k) = some k := by decide
  exact this k h
theorem numL_figs (n : Nat) (h : n < 65536) : numL 0 (figs n) = some n := by
  simp only [figs, numL, figN_hx _ (show n / 4096 < 16 by omega), figN_hx _ (show n / 256 % 16 < 16 by omega), figN_hx _ (show n / 16 % 16 < 16 by omega), figN_hx _ (show n % 16 < 16 by omega)]
  congr 1; omega
theorem lineL_len (x : List UInt8) : (lineL x).length = x.length + 4 := by simp only [lineL, figs, List.length_append, List.length_cons, List.length_nil]; omega
theorem wl_line {a x r : List UInt8} (hx : x.length ≤ 65516) : wl (a ++ (lineL x ++ r)) a.length = some (.inr x, a.length + (x.length + 4)) := by
  have hd : (a ++ (lineL x ++ r)).drop a.length = lineL x ++ r := List.drop_left
  have hl := lineL_len x
  have ht : (lineL x ++ r).take 4 = figs (x.length + 4) := by
    rw [lineL, List.append_assoc]; rfl
  rw [wl, if_neg (by simp only [List.length_append]; omega), hd, ht, numL_figs _ (by omega)]
  dsimp only
  rw [if_neg (by omega), if_neg (by omega), if_neg (by omega), if_neg (by simp only [List.length_append]; omega)]
  have h2 : (a ++ (lineL x ++ r)).drop (a.length + 4) = x ++ r := by
    rw [← List.drop_drop, hd, lineL, List.append_assoc]; rfl
  rw [h2, Nat.add_sub_cancel, List.take_left]
theorem wl_mark {a r : List UInt8} {m : UInt8} {k : Nat} (hk : k ≤ 2) (hm : figN m = some k) : wl (a ++ ([48, 48, 48, m] ++ r)) a.length = some (.inl k, a.length + 4) := by
  have hd : (a ++ ([48, 48, 48, m] ++ r)).drop a.length = [48, 48, 48, m] ++ r := List.drop_left
  have h0 : figN 48 = some 0 := rfl
  have hn : numL 0 [48, 48, 48, m] = some k := by simp [numL, h0, hm]
  rw [wl, if_neg (by simp only [List.length_append, List.length_cons]; omega), hd]
  show (match numL 0 [48, 48, 48, m] with | none => none | some n => _) = _
  rw [hn]
  dsimp only
  rw [if_pos hk]
theorem rpF_lines : ∀ (xs : List (List UInt8)) (a r : List UInt8) (f : Nat), (∀ x ∈ xs, x.length ≤ 65516) →
    rpF (f + xs.length) (a ++ ((xs.map lineL).flatten ++ r)) a.length = (rpF f ((a ++ (xs.map lineL).flatten) ++ r) (a ++ (xs.map lineL).flatten).length).map fun q => (xs.map Sum.inr ++ q.1, q.2)
  | [], a, r, f, _ => by
    simp only [List.map_nil, List.flatten_nil, List.nil_append, List.append_nil, List.length_nil, Nat.add_zero]
    cases rpF f (a ++ r) a.length <;> rfl
  | x :: xs, a, r, f, h => by
    have ih := rpF_lines xs (a ++ lineL x) r f fun y hy => h y (List.mem_cons_of_mem _ hy)
    have hl := lineL_len x
    have e1 : a ++ (((x :: xs).map lineL).flatten ++ r) = a ++ (lineL x ++ ((xs.map lineL).flatten ++ r)) := by simp
    have e2 : (a ++ lineL x) ++ ((xs.map lineL).flatten ++ r) = a ++ (lineL x ++ ((xs.map lineL).flatten ++ r)) := by simp
    have e3 : a ++ ((x :: xs).map lineL).flatten = (a ++ lineL x) ++ (xs.map lineL).flatten := by simp
    rw [e1, List.length_cons, ← Nat.add_assoc, rpF, if_pos (by simp only [List.length_append]; omega), wl_line (h x List.mem_cons_self)]
    dsimp only
    rw [show isEnd (.inr x) = false from rfl, ← hl, ← List.length_append, ← e2, ih, e3]
    cases rpF f ((a ++ lineL x) ++ (xs.map lineL).flatten ++ r) ((a ++ lineL x) ++ (xs.map lineL).flatten).length <;> rfl
theorem lines_len : ∀ (xs : List (List UInt8)), xs.length ≤ (xs.map lineL).flatten.length
  | [] => Nat.le_refl _
  | x :: xs => by
    have ih := lines_len xs
    have := lineL_len x
    simp only [List.map_cons, List.flatten_cons, List.length_append, List.length_cons]; omega
theorem rp_lines (xs : List (List UInt8)) (r : List UInt8) (h : ∀ x ∈ xs, x.length ≤ 65516) :
    ∃ f, r.length + 1 ≤ f ∧ rp ((xs.map lineL).flatten ++ r) = (rpF f ((xs.map lineL).flatten ++ r) (xs.map lineL).flatten.length).map fun q => (xs.map Sum.inr ++ q.1, q.2) := by
  have hl := lines_len xs
  refine ⟨((xs.map lineL).flatten ++ r).length + 1 - xs.length, by rw [List.length_append]; omega, ?_⟩
  have := rpF_lines xs [] r (((xs.map lineL).flatten ++ r).length + 1 - xs.length) h
  rw [show ((xs.map lineL).flatten ++ r).length + 1 - xs.length + xs.length = ((xs.map lineL).flatten ++ r).length + 1 by rw [List.length_append]; omega] at this
  simpa [rp] using this
theorem rp_mark (xs : List (List UInt8)) (r : List UInt8) (m : UInt8) (k : Nat) (h : ∀ x ∈ xs, x.length ≤ 65516) (hk : k = 0 ∨ k = 2) (hm : figN m = some k) :
    rp ((xs.map lineL).flatten ++ ([48, 48, 48, m] ++ r)) = some (xs.map Sum.inr ++ [.inl k], (xs.map lineL).flatten.length + 4) := by
  obtain ⟨f, hf, e⟩ := rp_lines xs ([48, 48, 48, m] ++ r) h
  obtain ⟨g, rfl⟩ : ∃ g, f = g + 1 := ⟨f - 1, by omega⟩
  rw [e, rpF, if_pos (by simp only [List.length_append, List.length_cons]; omega), wl_mark (by omega) hm]
  dsimp only
  rw [show isEnd (.inl k) = true from by rcases hk with rfl | rfl <;> rfl]
  rfl
theorem rp_mark1 (xs : List (List UInt8)) (r : List UInt8) (h : ∀ x ∈ xs, x.length ≤ 65516) {q : List Item × Nat} (hq : rp ((xs.map lineL).flatten ++ ([48, 48, 48, 49] ++ r)) = some q) : .inl 1 ∈ q.1 := by
  obtain ⟨f, hf, e⟩ := rp_lines xs ([48, 48, 48, 49] ++ r) h
  obtain ⟨g, rfl⟩ : ∃ g, f = g + 1 := ⟨f - 1, by omega⟩
  rw [e, rpF, if_pos (by simp only [List.length_append, List.length_cons]; omega), wl_mark (k := 1) (by omega) rfl] at hq
  dsimp only at hq
  rw [show isEnd (.inl 1) = false from rfl] at hq
  cases hr : rpF g ((xs.map lineL).flatten ++ ([48, 48, 48, 49] ++ r)) ((xs.map lineL).flatten.length + 4) with
  | none => rw [hr] at hq; cases hq
  | some q' => rw [hr] at hq; cases hq; simp
theorem rq_mark1 (xs : List (List UInt8)) (r : List UInt8) (n : Nat) (h : ∀ x ∈ xs, x.length ≤ 65516) : rq ((xs.map lineL).flatten ++ ([48, 48, 48, 49] ++ r)) n = none := by
  rw [rq]
  cases hp : rp ((xs.map lineL).flatten ++ ([48, 48, 48, 49] ++ r)) with
  | none => rfl
  | some q =>
    obtain ⟨its, p⟩ := q
    have hm : .inl 1 ∈ its := rp_mark1 xs r h hp
    dsimp only
    split
    · rename_i hlast
      obtain ⟨ys, rfl⟩ := List.getLast?_eq_some_iff.mp hlast
      rw [List.dropLast_concat]
      rcases List.mem_append.mp hm with hm | hm
      · rw [itemRows_none hm]
      · rw [List.mem_singleton] at hm; cases hm
    · rfl
theorem itemRows_inr : ∀ (xs : List (List UInt8)), itemRows (xs.map Sum.inr) = some (xs.map rowL)
  | [] => rfl
  | x :: xs => by rw [List.map_cons, itemRows, itemRows_inr xs]; rfl
theorem rq_lines (xs : List (List UInt8)) (r : List UInt8) (n : Nat) (h : ∀ x ∈ xs, x.length ≤ 65516) :
    rq ((xs.map lineL).flatten ++ ([48, 48, 48, 48] ++ r)) n = match rds n (firstCut (xs.map rowL)).1 with | none => none | some cmds => some (cmds, splitW (firstCut (xs.map rowL)).2, r) := by
  rw [rq, rp_mark xs r 48 0 h (.inl rfl) rfl]
  dsimp only
  rw [if_pos (by simp), List.dropLast_concat, itemRows_inr]
  dsimp only
  have e : ((xs.map lineL).flatten ++ ([48, 48, 48, 48] ++ r)).drop ((xs.map lineL).flatten.length + 4) = r := by
    rw [← List.drop_drop, List.drop_left]; rfl
  rw [e]
  all_goals (cases rds n (firstCut (xs.map rowL)).1 <;> rfl)
theorem rq_mark2 (xs : List (List UInt8)) (r : List UInt8) (n : Nat) (h : ∀ x ∈ xs, x.length ≤ 65516) : rq ((xs.map lineL).flatten ++ ([48, 48, 48, 50] ++ r)) n = none := by
  rw [rq, rp_mark xs r 50 2 h (.inr rfl) rfl]
  dsimp only
  rw [if_neg (by simp)]
/-- cut short: none, or lines alone -/
theorem rpF_cut : ∀ (xs : List (List UInt8)) (a : List UInt8) (b f : Nat), (∀ x ∈ xs, x.length ≤ 65516) → b < (xs.map lineL).flatten.length + 4 →
    ∀ q, rpF f (a ++ ((xs.map lineL).flatten ++ [48, 48, 48, 48]).take b) a.length = some q → ∀ k, .inl k ∉ q.1
  | _, a, b, 0, _, _, q, hq => by
    cases hq; intro k hk; cases hk
  | [], a, b, f + 1, _, hb, q, hq => by
    simp only [List.map_nil, List.flatten_nil, List.nil_append, List.length_nil, Nat.zero_add] at hq hb
    rw [rpF] at hq
    split at hq
    · rename_i hlt
      have hw : wl (a ++ ([48, 48, 48, 48] : List UInt8).take b) a.length = none := by
        rw [wl, if_pos (by simp only [List.length_append, List.length_take, List.length_cons, List.length_nil]; omega)]
      rw [hw] at hq
      cases hq
    · cases hq; intro k hk; cases hk
  | x :: xs, a, b, f + 1, h, hb, q, hq => by
    have hl := lineL_len x
    have hx := h x List.mem_cons_self
    have e1 : ((x :: xs).map lineL).flatten ++ [48, 48, 48, 48] = lineL x ++ ((xs.map lineL).flatten ++ [48, 48, 48, 48]) := by simp
    rw [e1] at hq
    by_cases hbl : x.length + 4 ≤ b
    · have e2 : (lineL x ++ ((xs.map lineL).flatten ++ [48, 48, 48, 48])).take b = lineL x ++ ((xs.map lineL).flatten ++ [48, 48, 48, 48]).take (b - (x.length + 4)) := by
        rw [List.take_append, List.take_of_length_le (by omega), hl]
      rw [e2, rpF, if_pos (by simp only [List.length_append]; omega), wl_line hx] at hq
      dsimp only at hq
      rw [show isEnd (.inr x) = false from rfl, ← hl, ← List.length_append, ← List.append_assoc] at hq
      cases hr : rpF f ((a ++ lineL x) ++ ((xs.map lineL).flatten ++ [48, 48, 48, 48]).take (b - (lineL x).length)) (a ++ lineL x).length with
      | none => rw [hr] at hq; cases hq
      | some q' =>
        rw [hr] at hq
        cases hq
        have ih := rpF_cut xs (a ++ lineL x) (b - (lineL x).length) f (fun y hy => h y (List.mem_cons_of_mem _ hy)) (by simp only [List.map_cons, List.flatten_cons, List.length_append] at hb; omega) q' hr
        intro k hk
        rcases List.mem_cons.mp hk with hk | hk
        · cases hk
        · exact ih k hk
    · rw [List.take_append_of_le_length (by omega), rpF] at hq
      split at hq
      · have hw : wl (a ++ (lineL x).take b) a.length = none := by
          rw [wl]
          split
          · rfl
          · rename_i h4
            have h4b : 4 ≤ b := by
              simp only [List.length_append, List.length_take] at h4; omega
            have hd : (a ++ (lineL x).take b).drop a.length = (lineL x).take b := List.drop_left
            have ht : ((lineL x).take b).take 4 = figs (x.length + 4) := by
              rw [List.take_take, Nat.min_eq_left h4b, lineL]; rfl
            rw [hd, ht, numL_figs _ (by omega)]
            dsimp only
            rw [if_neg (by omega), if_neg (by omega), if_neg (by omega), if_pos (by simp only [List.length_append, List.length_take]; omega)]
        rw [hw] at hq
        cases hq
      · cases hq; intro k hk; cases hk
theorem rq_cut (xs : List (List UInt8)) (b n : Nat) (h : ∀ x ∈ xs, x.length ≤ 65516) (hb : b < (xs.map lineL).flatten.length + 4) : rq (((xs.map lineL).flatten ++ [48, 48, 48, 48]).take b) n = none := by
  rw [rq]
  cases hp : rp (((xs.map lineL).flatten ++ [48, 48, 48, 48]).take b) with
  | none => rfl
  | some q =>
    obtain ⟨its, p⟩ := q
    have := rpF_cut xs [] b _ h hb _ hp
    dsimp only
    rw [if_neg]
    intro hlast
    exact this 0 (List.mem_of_getLast? hlast)

theorem cut0_free {r : List UInt8} (h : (0 : UInt8) ∉ r) : cut0 r = (r, []) := by
  have : r.findIdx? (· == 0) = none := by
    rw [List.findIdx?_eq_none_iff]
    intro x hx
    simp only [beq_eq_false_iff_ne]
    rintro rfl; exact h hx
  rw [cut0, this]
theorem findIdx0 : ∀ (r s : List UInt8), (0 : UInt8) ∉ r → (r ++ 0 :: s).findIdx? (· == 0) = some r.length
  | [], s, _ => by simp [List.findIdx?_cons]
  | x :: r, s, h => by
    have h1 : x ≠ 0 := fun e => h (by rw [e]; exact List.mem_cons_self)
    have ih := findIdx0 r s fun hm => h (List.mem_cons_of_mem _ hm)
    rw [List.cons_append, List.findIdx?_cons, ih]
    simp [h1]
theorem cut0_at {r s : List UInt8} (h : (0 : UInt8) ∉ r) : cut0 (r ++ 0 :: s) = (r, s) := by
  rw [cut0, findIdx0 r s h]
  dsimp only
  rw [List.take_left]
  have : (r ++ 0 :: s).drop (r.length + 1) = s := by rw [← List.drop_drop, List.drop_left]; rfl
  rw [this]
theorem rowL_feed (y : List UInt8) : rowL (y ++ [10]) = y := by
  have h1 : (y ++ [(10 : UInt8)]).length - 1 = y.length := by simp
  rw [rowL, h1, List.drop_left, if_pos rfl, List.take_left]
theorem rowL_bare {y : List UInt8} {z : UInt8} (hz : z ≠ 10) : rowL (y ++ [z]) = y ++ [z] := by
  have h1 : (y ++ [z]).length - 1 = y.length := by simp
  rw [rowL, h1, List.drop_left, if_neg (by intro e; injection e with e; exact hz e)]
theorem lawNames_last {nm : List UInt8} (h : nm ∈ lawNames) : ∃ y z, nm = y ++ [z] ∧ z ≠ 10 := by
  have : ∀ nm ∈ lawNames, nm ≠ [] ∧ nm.getLast? ≠ some 10 := by decide
  obtain ⟨h1, h2⟩ := this nm h
  refine ⟨nm.dropLast, nm.getLast h1, (List.dropLast_concat_getLast h1).symm, fun e => h2 ?_⟩
  rw [← List.dropLast_concat_getLast h1, e]; simp
theorem lawNames_no0 {nm : List UInt8} (h : nm ∈ lawNames) : (0 : UInt8) ∉ nm := by
  have : ∀ nm ∈ lawNames, (0 : UInt8) ∉ nm := by decide
  exact this nm h
theorem hx_ne0 (k : Nat) (h : k < 16) : hx k ≠ 0 := by
  have : ∀ k < 16, hx k ≠ 0 := by decide
  exact this k h
theorem hexL_no0 : ∀ (b : List UInt8), (0 : UInt8) ∉ hexL b
  | [] => by simp [hexL]
  | c :: b => by
    have := c.toNat_lt
    rw [hexL_cons]
    intro h
    rcases List.mem_cons.mp h with h | h
    · exact hx_ne0 _ (by omega) h.symm
    · rcases List.mem_cons.mp h with h | h
      · exact hx_ne0 _ (by omega) h.symm
      · exact hexL_no0 b h
theorem crow_no0 {n : Nat} {c : Cmd} (h : okCmd n c) : (0 : UInt8) ∉ crow c := by
  intro hm
  simp only [crow, List.mem_append, List.mem_cons, List.not_mem_nil, or_false] at hm
  rcases hm with (((hm | hm) | hm) | hm) | hm
  · exact hexL_no0 _ hm
  · cases hm
  · exact hexL_no0 _ hm
  · cases hm
  · exact lawNames_no0 h.2.2 hm
theorem crow_last {n : Nat} {c : Cmd} (h : okCmd n c) : ∃ y z, crow c = y ++ [z] ∧ z ≠ 10 := by
  obtain ⟨y, z, e, hz⟩ := lawNames_last h.2.2
  exact ⟨hexL c.1 ++ [32] ++ hexL c.2.1 ++ [32] ++ y, z, by rw [crow, e]; simp, hz⟩
theorem rds_crow {n : Nat} : ∀ {cmds : List Cmd}, (∀ c ∈ cmds, okCmd n c) → rds n (cmds.map crow) = some cmds
  | [], _ => rfl
  | c :: cmds, h => by
    rw [List.map_cons, rds, rd_crow (h c List.mem_cons_self)]
    dsimp only
    rw [rds_crow fun d hd => h d (List.mem_cons_of_mem _ hd)]; rfl
end
section
set_option maxHeartbeats 4000000
theorem splitL_free' {α : Type} [DecidableEq α] (c : α) : ∀ (p : List α), c ∉ p → splitL c p = [p]
  | [], _ => rfl
  | x :: r, h => by
    have h1 : x ≠ c := fun e => h (by rw [e]; exact List.mem_cons_self)
    rw [splitL, if_neg h1, splitL_free' c r fun hm => h (List.mem_cons_of_mem _ hm)]
theorem splitL_app' {α : Type} [DecidableEq α] (c : α) : ∀ (p l : List α), c ∉ p → splitL c (p ++ c :: l) = p :: splitL c l
  | [], l, _ => by simp [splitL]
  | x :: r, l, h => by
    have h1 : x ≠ c := fun e => h (by rw [e]; exact List.mem_cons_self)
    rw [List.cons_append, splitL, if_neg h1, splitL_app' c r l fun hm => h (List.mem_cons_of_mem _ hm)]
theorem sW_nil : splitW [] = [] := rfl
theorem sW_sp (l : List UInt8) : splitW (32 :: l) = splitW l := by
  have := splitL_app' (32 : UInt8) [] l (by simp)
  rw [List.nil_append] at this
  rw [splitW, this, splitW, List.filter_cons]; rfl
theorem sW_cons {wd l : List UInt8} (h1 : wd ≠ []) (h2 : (32 : UInt8) ∉ wd) : splitW (wd ++ 32 :: l) = wd :: splitW l := by
  rw [splitW, splitL_app' _ _ _ h2, List.filter_cons, if_pos (by cases wd <;> simp_all)]; rfl
theorem sW_last {wd : List UInt8} (h1 : wd ≠ []) (h2 : (32 : UInt8) ∉ wd) : splitW wd = [wd] := by
  rw [splitW, splitL_free' _ _ h2, List.filter_cons, if_pos (by cases wd <;> simp_all)]; rfl
theorem lawWords_ok {x : List UInt8} (h : x ∈ lawWords) : x ≠ [] ∧ (32 : UInt8) ∉ x := by
  have : ∀ x ∈ lawWords, x ≠ [] ∧ (32 : UInt8) ∉ x := by decide
  exact this x h
theorem joinL_one {α : Type} (sep p : List α) : joinL sep [p] = p := by simp [joinL]
theorem sW_other : ∀ (words : List (List UInt8)), (∀ x ∈ words, x ∈ lawWords) → splitW (joinL [32, 32] words ++ [32]) = words
  | [], _ => by rw [show joinL ([32, 32] : List UInt8) [] = [] by simp [joinL]]; exact sW_sp []
  | [a], h => by
    obtain ⟨h1, h2⟩ := lawWords_ok (h a List.mem_cons_self)
    rw [joinL_one, sW_cons h1 h2, sW_nil]
  | a :: b :: r, h => by
    obtain ⟨h1, h2⟩ := lawWords_ok (h a List.mem_cons_self)
    have e : joinL ([32, 32] : List UInt8) (a :: b :: r) ++ [32] = a ++ 32 :: (32 :: (joinL [32, 32] (b :: r) ++ [32])) := by
      rw [joinL_cons _ a (b :: r) (by simp)]; simp
    rw [e, sW_cons h1 h2, sW_sp, sW_other (b :: r) fun x hx => h x (List.mem_cons_of_mem _ hx)]
theorem sW_written : ∀ (words : List (List UInt8)), (∀ x ∈ words, x ∈ lawWords) → splitW (joinL [32] words) = words
  | [], _ => by rw [show joinL ([32] : List UInt8) [] = [] by simp [joinL]]; exact sW_nil
  | [a], h => by
    obtain ⟨h1, h2⟩ := lawWords_ok (h a List.mem_cons_self)
    rw [joinL_one, sW_last h1 h2]
  | a :: b :: r, h => by
    obtain ⟨h1, h2⟩ := lawWords_ok (h a List.mem_cons_self)
    have e : joinL ([32] : List UInt8) (a :: b :: r) = a ++ 32 :: joinL [32] (b :: r) := by
      rw [joinL_cons _ a (b :: r) (by simp)]; simp
    rw [e, sW_cons h1 h2, sW_written (b :: r) fun x hx => h x (List.mem_cons_of_mem _ hx)]
theorem rowL_crow {n : Nat} {c : Cmd} {f : List UInt8} (h : okCmd n c) (hf : f = [] ∨ f = [10]) : rowL (crow c ++ f) = crow c := by
  rcases hf with rfl | rfl
  · obtain ⟨y, z, e, hz⟩ := crow_last h
    rw [List.append_nil, e, rowL_bare hz]
  · exact rowL_feed _
theorem oth_rest {n : Nat} (hn : n ≤ 4) : ∀ (r : List Cmd) (ls : List (List UInt8)), (∀ c ∈ r, okCmd n c) → ls.length = r.length → (∀ (j : Nat) (c : Cmd), r[j]? = some c → ∃ f : List UInt8, (f = [] ∨ f = [10]) ∧ ls[j]? = some (lineL (crow c ++ f))) →
    ∃ xs : List (List UInt8), ls = xs.map lineL ∧ xs.map rowL = r.map crow ∧ ∀ x ∈ xs, x.length ≤ 65516
  | [], ls, _, hl, _ => by
    have : ls = [] := List.length_eq_zero_iff.mp hl
    exact ⟨[], this, rfl, fun x hx => by cases hx⟩
  | c :: r, [], _, hl, _ => by cases hl
  | c :: r, l :: ls, hok, hl, h => by
    obtain ⟨xs, e1, e2, e3⟩ := oth_rest hn r ls (fun d hd => hok d (List.mem_cons_of_mem _ hd)) (by simpa using hl) fun j d hj => by
      have := h (j + 1) d (by simpa using hj)
      simpa using this
    obtain ⟨f, hf, e⟩ := h 0 c rfl
    have hc := hok c List.mem_cons_self
    have e' : l = lineL (crow c ++ f) := by simpa using e
    refine ⟨(crow c ++ f) :: xs, by rw [e', e1]; rfl, by rw [List.map_cons, rowL_crow hc hf, e2]; rfl, fun x hx => ?_⟩
    rcases List.mem_cons.mp hx with rfl | hx
    · have := (crow_le hc hn).1
      have hfl : f.length ≤ 1 := by rcases hf with rfl | rfl <;> simp
      rw [List.length_append]; omega
    · exact e3 x hx
theorem oth_rows {n : Nat} (hn : n ≤ 4) {bare : Bool} {ws : List UInt8} {cmds : List Cmd} {lines : List (List UInt8)} (hok : ∀ c ∈ cmds, okCmd n c) (hws : ws.length ≤ 1000) (h : OthOk bare ws cmds lines) :
    ∃ xs : List (List UInt8), lines = xs.map lineL ∧ firstCut (xs.map rowL) = (cmds.map crow, if bare = true ∨ cmds = [] then [] else ws ++ [32]) ∧ ∀ x ∈ xs, x.length ≤ 65516 := by
  obtain ⟨hl, h⟩ := h
  match cmds, lines, hl, hok, h with
  | [], lines, hl, _, _ =>
    have : lines = [] := List.length_eq_zero_iff.mp hl
    exact ⟨[], this, by simp [firstCut], fun x hx => by cases hx⟩
  | c :: r, [], hl, _, _ => cases hl
  | c :: r, l :: ls, hl, hok, h =>
    obtain ⟨xs, e1, e2, e3⟩ := oth_rest hn r ls (fun d hd => hok d (List.mem_cons_of_mem _ hd)) (by simpa using hl) fun j d hj => by
      obtain ⟨f, hf, e⟩ := h (j + 1) d (by simpa using hj)
      refine ⟨f, hf, ?_⟩
      simpa using e
    obtain ⟨f, hf, e⟩ := h 0 c rfl
    have hc := hok c List.mem_cons_self
    have hcl := (crow_le hc hn).1
    have hfl : f.length ≤ 1 := by rcases hf with rfl | rfl <;> simp
    cases bare with
    | true =>
      have e' : l = lineL (crow c ++ f) := by simpa using e
      refine ⟨(crow c ++ f) :: xs, by rw [e', e1]; rfl, ?_, fun x hx => ?_⟩
      · rw [List.map_cons, rowL_crow hc hf, e2, firstCut, cut0_free (crow_no0 hc)]; simp
      · rcases List.mem_cons.mp hx with rfl | hx
        · rw [List.length_append]; omega
        · exact e3 x hx
    | false =>
      have e' : l = lineL (crow c ++ 0 :: (ws ++ [32]) ++ f) := by simpa using e
      have hrow : rowL (crow c ++ 0 :: (ws ++ [32]) ++ f) = crow c ++ 0 :: (ws ++ [32]) := by
        rcases hf with rfl | rfl
        · rw [List.append_nil, show crow c ++ 0 :: (ws ++ [32]) = (crow c ++ 0 :: ws) ++ [32] by simp, rowL_bare (by decide)]
        · exact rowL_feed _
      refine ⟨(crow c ++ 0 :: (ws ++ [32]) ++ f) :: xs, by rw [e', e1]; rfl, ?_, fun x hx => ?_⟩
      · rw [List.map_cons, hrow, e2, firstCut, cut0_at (crow_no0 hc)]; simp
      · rcases List.mem_cons.mp hx with rfl | hx
        · simp only [List.length_append, List.length_cons, List.length_nil]; omega
        · exact e3 x hx
theorem odd_row {n : Nat} (hn : n = 2 ∨ n = 3 ∨ n = 4) {x : List UInt8} (hx : x = [115, 104, 97, 108, 108, 111, 119, 32] ++ List.replicate (2 * n) 48 ∨ x = [10] ∨ x = List.replicate (4 * n) 48) : rd (rowL x) n = none ∧ (0 : UInt8) ∉ rowL x ∧ x.length ≤ 65516 := by
  rcases hn with rfl | rfl | rfl <;> rcases hx with rfl | rfl | rfl <;> decide
theorem oth_pure {n : Nat} (hn : n = 2 ∨ n = 3 ∨ n = 4) {cmds : List Cmd} {words : List (List UInt8)} {pk : List UInt8} (hok : ∀ c ∈ cmds, okCmd n c) (hwl : words.length ≤ 4) (hwk : ∀ x ∈ words, x ∈ lawWords) : OthPure n cmds words pk := by
  intro bare lines h
  have hn4 : n ≤ 4 := by omega
  have hws : (joinL [32, 32] words).length ≤ 1000 := by
    have e1 := joinL_le [32, 32] words
    have e2 := sum_le (B := 13) words fun x hx => lawWords_le (hwk x hx)
    have e3 : ([32, 32] : List UInt8).length = 2 := rfl
    rw [e3] at e1; omega
  obtain ⟨xs, rfl, hfc, hx⟩ := oth_rows hn4 hok hws h
  refine ⟨?_, fun a ha => rq_cut xs a n hx ha, ?_, ?_, fun x hxo => ?_, ?_⟩
  · rw [List.append_assoc, rq_lines xs pk n hx, hfc]
    dsimp only
    rw [rds_crow hok]
    dsimp only
    split
    · rfl
    · rw [sW_other words hwk]
  · rw [List.append_assoc]; exact rq_mark1 xs pk n hx
  · rw [List.append_assoc]; exact rq_mark2 xs pk n hx
  · obtain ⟨o1, o2, o3⟩ := odd_row hn hxo
    have e : (xs.map lineL).flatten ++ lineL x ++ [48, 48, 48, 48] = ((xs ++ [x]).map lineL).flatten ++ ([48, 48, 48, 48] ++ []) := by simp
    rw [e, rq_lines (xs ++ [x]) [] n fun y hy => by
      rcases List.mem_append.mp hy with hy | hy
      · exact hx y hy
      · rw [List.mem_singleton.mp hy]; exact o3]
    have hm : rowL x ∈ (firstCut ((xs ++ [x]).map rowL)).1 := by
      cases xs with
      | nil => simp [firstCut, cut0_free o2]
      | cons y ys => simp [firstCut]
    rw [rds_none o1 hm]
  · have e : [48, 48, 48, 49] ++ (xs.map lineL).flatten ++ [48, 48, 48, 48] = (([] : List (List UInt8)).map lineL).flatten ++ ([48, 48, 48, 49] ++ ((xs.map lineL).flatten ++ [48, 48, 48, 48])) := by simp
    rw [e]; exact rq_mark1 [] _ n fun y hy => by cases hy
theorem written_pure {n : Nat} (hn : n ≤ 4) {cmds : List Cmd} {words : List (List UInt8)} {pk : List UInt8} (hok : ∀ c ∈ cmds, okCmd n c) (hwl : words.length ≤ 4) (hwk : ∀ x ∈ words, x ∈ lawWords) :
    rq ((rowsL (joinL [32] words) cmds).flatten ++ [48, 48, 48, 48] ++ pk) n = some (cmds, if cmds = [] then [] else words, pk) := by
  have hws : (joinL [32] words).length ≤ 1000 := by
    have e1 := joinL_le [32] words
    have e2 := sum_le (B := 13) words fun x hx => lawWords_le (hwk x hx)
    have e3 : ([32] : List UInt8).length = 1 := rfl
    rw [e3] at e1; omega
  cases cmds with
  | nil =>
    have := rq_lines [] pk n (fun y hy => by cases hy)
    simpa [rowsL, firstCut, rds, sW_nil] using this
  | cons c r =>
    have hc := hok c List.mem_cons_self
    have hcl := (crow_le hc hn).1
    have e : rowsL (joinL [32] words) (c :: r) = ((crow c ++ ([0, 32] ++ joinL [32] words) ++ [10]) :: r.map (fun c => crow c ++ [10])).map lineL := by
      rw [rowsL, List.map_cons, List.map_map]; rfl
    have hrows : ((crow c ++ ([0, 32] ++ joinL [32] words) ++ [10]) :: r.map (fun c => crow c ++ [10])).map rowL = (crow c ++ 0 :: (32 :: joinL [32] words)) :: r.map crow := by
      rw [List.map_cons, rowL_feed, List.map_map]
      congr 1
      exact List.map_congr_left fun d _ => rowL_feed _
    rw [List.append_assoc, e, rq_lines _ pk n (fun y hy => by
      rcases List.mem_cons.mp hy with rfl | hy
      · simp only [List.length_append, List.length_cons, List.length_nil]; omega
      · obtain ⟨d, hd, rfl⟩ := List.mem_map.mp hy
        have := (crow_le (hok d (List.mem_cons_of_mem _ hd)) hn).1
        simp only [List.length_append, List.length_cons, List.length_nil]; omega), hrows, firstCut, cut0_at (crow_no0 hc)]
    dsimp only
    rw [show crow c :: r.map crow = (c :: r).map crow from rfl, rds_crow hok]
    dsimp only
    rw [sW_sp, sW_written words hwk]; simp
end
section
set_option maxHeartbeats 4000000
theorem ints_rel {vs : List Value} {ns : List Int} (h : IntsAre vs ns) : Rel2 (fun (k : Int) v => ∃ u, v = .int k u) ns vs := by
  induction h with
  | nil => trivial
  | cons _ _ _ ih => exact ⟨⟨_, rfl⟩, ih⟩
theorem pick124 {h₀ h : Heap} {L : Addr} {a b c d : Addr × Obj} (N : News h₀ L h ([a, b, c] ++ [d])) : News h₀ L h [a, b, d] := news_weak N (by simp)
theorem comp_front {h₀ h : Heap} {L tp I C D2 : Addr} {o oI oC oD : Obj} {d : Addr × Obj} {R : List (Addr × Obj)} (N : News h₀ L h (d :: (I, oI) :: (C, oC) :: (D2, oD) :: (tp, o) :: R)) (l : tp < d.1) (off : Off3 I C D2 ((tp, o) :: R)) (hR : ∀ p ∈ R, p.1 ≠ tp) :
    News h₀ L h ((tp, o) :: d :: (I, oI) :: (C, oC) :: (D2, oD) :: R) ∧ ∀ p ∈ d :: (I, oI) :: (C, oC) :: (D2, oD) :: R, p.1 ≠ tp := by
  refine ⟨news_weak N fun p hp => ?_, fun p hp => ?_⟩
  · simp only [List.mem_cons] at hp ⊢
    rcases hp with h | h | h | h | h | h <;> simp [h]
  · simp only [List.mem_cons] at hp
    rcases hp with rfl | rfl | rfl | rfl | hp
    · exact Nat.ne_of_gt l
    · exact Ne.symm off.1.1
    · exact Ne.symm off.1.2.1
    · exact Ne.symm off.1.2.2
    · exact hR p hp
theorem comp_back {h₀ h : Heap} {L tp I C D2 : Addr} {o oI oC oD : Obj} {d : Addr × Obj} {R : List (Addr × Obj)} (N : News h₀ L h ((tp, o) :: d :: (I, oI) :: (C, oC) :: (D2, oD) :: R)) : News h₀ L h ((I, oI) :: (C, oC) :: (D2, oD) :: (tp, o) :: R) := news_weak N fun p hp => by
  simp only [List.mem_cons] at hp ⊢
  rcases hp with h | h | h | h | h <;> simp [h]
theorem cmds_front {h₀ h : Heap} {L tp D c l : Addr} {o oD oc ol : Obj} {objs : List (Addr × Obj)} (N : News h₀ L h ((l, ol) :: objs ++ [(tp, o), (D, oD), (c, oc)])) (hsep : ∀ p ∈ (l, ol) :: objs, p.1 ≠ tp) (h1 : D ≠ tp) (h2 : c ≠ tp) :
    News h₀ L h ((tp, o) :: (D, oD) :: (c, oc) :: (l, ol) :: objs) ∧ ∀ p ∈ (D, oD) :: (c, oc) :: (l, ol) :: objs, p.1 ≠ tp := by
  refine ⟨news_weak N fun p hp => ?_, fun p hp => ?_⟩
  · simp only [List.mem_cons, List.cons_append, List.mem_append, List.not_mem_nil, or_false] at hp ⊢
    rcases hp with h | h | h | h | h <;> simp [h]
  · rcases List.mem_cons.mp hp with rfl | hp
    · exact h1
    · rcases List.mem_cons.mp hp with rfl | hp
      · exact h2
      · exact hsep p hp
theorem law_keep {g g1 g2 g3 h : Heap} {L : Addr} {m : Nms} (T1 : KtsTurn (([] : List Env).filterMap (·.frame)) g g1) (T2 : KtsTurn (([] : List Env).filterMap (·.frame)) g1 g2) (T3 : KtsTurn (([] : List Env).filterMap (·.frame)) g2 g3) (F : Fr g3 L h m) : Fr g L h m :=
  ⟨F.ns, fun b o e => F.keep _ _ (T3.other _ _ (T2.other _ _ (T1.other _ _ e (by simp)) (by simp)) (by simp)), by rw [← T1.size, ← T2.size, ← T3.size]; exact F.above⟩
theorem rel_any {α : Type} {G : α → Value → Prop} {P : Value → Prop} (hG : ∀ a v, G a v → P v) : ∀ {xs : List α} {ys : List Value}, Rel2 G xs ys → ∀ v ∈ ys, P v
  | [], [], _, _, h => nomatch h
  | _ :: _, _ :: _, h, v, hv => by
    rcases List.mem_cons.mp hv with rfl | hv
    · exact hG _ _ h.1
    · exact rel_any hG h.2 v hv
noncomputable def law_holds_sb1 : { pQ : (World) → (Shared) → (Shared) → (Str → Option Value) → (Str → Option Value) → (Addr) → (Obj) → (Value) → (Value) → (Addr) → (Obj) → (Addr) → (Addr) → (List Int) → (Addr) → (List Value) → (Heap) → (Nat) → (Obj) → Prop // (∀ (w : World) (s0 : Shared) (s1 : Shared) (mg : Str → Option Value) (mb : Str → Option Value) (fa : Addr) (o : Obj) (pm : Value) (doc : Value) (w10 : Addr) (w9 : Obj) (w8 : Addr) (w7 : Addr) (ns : List Int) (sA : Addr) (svs : List Value) (h₁ : Heap) (tk₁ : Nat) (w0 : Obj), pQ w s0 s1 mg mb fa o pm doc w10 w9 w8 w7 ns sA svs h₁ tk₁ w0) → (PySem.Challenge.rw_pb0105_01.Holds) } := ⟨_, by
  intro hP_go
  refine hd ?_
  k_go0
  rename_i w s0 s1 mg mb G Y fa o pm doc ho hg KX X V GL T B TE TW w10 w9 M w8 w7 hcd ns hs hlay0 hL1 hr1 hl2 w5 w4 sA svs sl hL ra w1 r0 hI hr hc1 hc2 K0 hD h₁ tk₁ F w0 hw0 N0 X0
  clear ra w1 r0 hr hD X0
  revert G Y ho hg KX X V GL T B TE TW M hcd hs hL hI hc1 K0 F hw0 N0; exact hP_go w s0 s1 mg mb fa o pm doc w10 w9 w8 w7 ns sA svs h₁ tk₁ w0⟩
namespace law_holds_go
noncomputable def c0 : (World) × (Shared) × (Shared) × (Str → Option Value) × (Str → Option Value) × (Addr) × (Obj) × (Value) × (Value) × (Addr) × (Obj) × (Addr) × (Addr) × (List Int) × (Addr) × (List Value) × (Heap) × (Nat) × (Obj) × Unit := pick ⟨⟨dW, dS, dS, default, default, default, default, default, default, default, default, default, default, default, default, default, default, default, default, ()⟩⟩ fun q => law_holds_sb1.1 q.1 q.2.1 q.2.2.1 q.2.2.2.1 q.2.2.2.2.1 q.2.2.2.2.2.1 q.2.2.2.2.2.2.1 q.2.2.2.2.2.2.2.1 q.2.2.2.2.2.2.2.2.1 q.2.2.2.2.2.2.2.2.2.1 q.2.2.2.2.2.2.2.2.2.2.1 q.2.2.2.2.2.2.2.2.2.2.2.1 q.2.2.2.2.2.2.2.2.2.2.2.2.1 q.2.2.2.2.2.2.2.2.2.2.2.2.2.1 q.2.2.2.2.2.2.2.2.2.2.2.2.2.2.1 q.2.2.2.2.2.2.2.2.2.2.2.2.2.2.2.1 q.2.2.2.2.2.2.2.2.2.2.2.2.2.2.2.2.1 q.2.2.2.2.2.2.2.2.2.2.2.2.2.2.2.2.2.1 q.2.2.2.2.2.2.2.2.2.2.2.2.2.2.2.2.2.2.1
@[irreducible] noncomputable def w : World := c0.1
@[irreducible] noncomputable def s0 : Shared := c0.2.1
@[irreducible] noncomputable def s1 : Shared := c0.2.2.1
@[irreducible] noncomputable def mg : Str → Option Value := c0.2.2.2.1
@[irreducible] noncomputable def mb : Str → Option Value := c0.2.2.2.2.1
@[irreducible] noncomputable def fa : Addr := c0.2.2.2.2.2.1
@[irreducible] noncomputable def o : Obj := c0.2.2.2.2.2.2.1
@[irreducible] noncomputable def pm : Value := c0.2.2.2.2.2.2.2.1
@[irreducible] noncomputable def doc : Value := c0.2.2.2.2.2.2.2.2.1
@[irreducible] noncomputable def w10 : Addr := c0.2.2.2.2.2.2.2.2.2.1
@[irreducible] noncomputable def w9 : Obj := c0.2.2.2.2.2.2.2.2.2.2.1
@[irreducible] noncomputable def w8 : Addr := c0.2.2.2.2.2.2.2.2.2.2.2.1
@[irreducible] noncomputable def w7 : Addr := c0.2.2.2.2.2.2.2.2.2.2.2.2.1
@[irreducible] noncomputable def ns : List Int := c0.2.2.2.2.2.2.2.2.2.2.2.2.2.1
@[irreducible] noncomputable def sA : Addr := c0.2.2.2.2.2.2.2.2.2.2.2.2.2.2.1
@[irreducible] noncomputable def svs : List Value := c0.2.2.2.2.2.2.2.2.2.2.2.2.2.2.2.1
@[irreducible] noncomputable def h₁ : Heap := c0.2.2.2.2.2.2.2.2.2.2.2.2.2.2.2.2.1
@[irreducible] noncomputable def tk₁ : Nat := c0.2.2.2.2.2.2.2.2.2.2.2.2.2.2.2.2.2.1
@[irreducible] noncomputable def w0 : Obj := c0.2.2.2.2.2.2.2.2.2.2.2.2.2.2.2.2.2.2.1
theorem main : law_holds_sb1.1 w s0 s1 mg mb fa o pm doc w10 w9 w8 w7 ns sA svs h₁ tk₁ w0 := by
  intro G Y ho hg KX X V GL T B TE TW M hcd hs hL hI hc1 K0 F hw0 N0
  k_extra "k_steps"
  k_extra "ktr_step"
  k_extra "k_steps"
  rename_i Ds ws hx Fs Ns hIs hCs hLs ls
  refine CompGo.rel (fun (k : Int) y => ∃ (c : Int) (u : Tok), y = .int c u) (IterOf.rel (ints_rel hIs) (iter_list (ol := listOf ws.toArray 0) rfl (Ns (Ds, _) (by k_mem)).1 rfl rfl)) Fs Ns (fun p hp => .inr (by rw [List.mem_singleton.mp hp]; k_mem)) (by rw [sizeLine_eq]; omega) ?_ ?_ (fun x => x.elim)
  · intro k v C oC m₂ hk hz0 hn1 hx1 I oI D ys h tk Q3 E3 F' N' off ne hret3 _
    obtain ⟨uk, rfl⟩ := hz0
    k_extra "k_steps"
    exact hret3 _ _ _ F' N' ⟨_, _, rfl⟩
  · intro ys hr D h tk F' N' o1
    k_extra "k_steps"
    rename_i tp hx1 Fx1 Nx1 l1 hx2 oc2 Fx2 Nx2 hc2'
    have hys : ys.length ≤ 60 := by
      have := hr.length
      omega
    have hio : NumsO (lst ys) := ⟨ys.toArray, ys.length, rfl, rfl, by simpa using hys, fun i v hv => rel_any (P := fun v => ∃ (k : Int) (u : Tok), v = .int k u) (fun _ _ h => h) hr v (by simpa using List.mem_of_getElem? (by simpa using hv))⟩
    have hT : TapeO D (listOf #[Value.ref D, Value.int 0 tk] 0) := ⟨0, tk, 0, Int.le_refl _, rfl, rfl⟩
    have Nt := pick124 Nx2
    have qD : tp ≠ D := Nat.ne_of_gt l1.1
    have qc := Nat.ne_of_lt l1.2.2
    clear Nx2 Nx1
    refine draw K0 (by k_asm) (by k_asm) Nt (by k_asm) rfl (by decide) (by decide) (fun p hp => ?_) hT (Nt (D, lst ys) (by simp)).1 hio (by decide) fun v1 u1 h' tk' o1 hv0 hv1 F' N' hT1 hst => ?_
    · simp only [List.mem_cons, List.not_mem_nil, or_false] at hp
      rcases hp with rfl | rfl
      · exact Ne.symm qD
      · exact qc
    k_extra "k_steps"
    rename_i F3 N3
    obtain ⟨n, hne, hn⟩ : ∃ n : Nat, 2 + v1 = (n : Int) ∧ (n = 2 ∨ n = 3 ∨ n = 4) := ⟨(2 + v1).toNat, by omega, by omega⟩
    rw [hne] at F3
    rw [hne]
    refine TSpec.use (law_commands_spec tp D _ n (by omega)) K0 (by k_asm) (by k_asm) N3 (by k_asm) rfl (by decide) (by decide) trivial (.head (fun p hp => ?_)) hT1 (N3 (D, lst ys) (by simp)).1 hio ?_
    · simp only [List.mem_cons, List.not_mem_nil, or_false] at hp
      rcases hp with rfl | rfl
      · exact Ne.symm qD
      · exact qc
    rintro r tl h' tk' o2 F' N' hsep hT2 hst2 ⟨lc, vs, nv, cmds, objs, rfl, rfl, hcm, hcl, hokc⟩
    obtain ⟨N4, hR⟩ := cmds_front N' (fun p hp => hsep p hp (tp, o1) (by simp)) (Ne.symm qD) qc
    clear N' N3 Nt
    k_extra "k_steps"
    k_extra "ktr_units"
    k_extra "k_steps"
    rename_i F5 N5
    refine draw K0 (by k_asm) (by k_asm) N5 (by k_asm) rfl (by decide) (by decide) hR hT2 (N5 (D, lst ys) (by simp)).1 hio (by decide) fun v2 u2 h' tk' o3 hv20 hv21 F' N' hT3 hst3 => ?_
    k_extra "k_steps"
    rename_i hR6 F6 N6 k6
    have e2 : v2 = ((v2.toNat : Nat) : Int) := by omega
    refine' ⟨Nat, List.range v2.toNat, (fun k v => ∃ u, v = .int (0 + (k : Int)) u), [], _, fun i zs nw => ∃ (o : Obj) (ws : List (List UInt8)), nw = (tp, o) :: (D, lst ys) :: (s1.heap.objs.size + 1, oc2) :: (lc, listOf vs.toArray nv) :: objs ∧ TapeO D o ∧ ws.length = i ∧ (∀ x ∈ ws, x ∈ lawWords) ∧ Rel2 (fun wd v => TxtV (tx wd) v) ws zs, iter_range (n := v2.toNat) rfl hR6 (by rw [e2]; exact small1 (by omega)) (by rw [e2]; exact size1 _), F6, N6, (by rw [sizeLine_eq, List.length_range]; omega), ⟨o3, [], rfl, hT3, rfl, (fun x hx => (by cases hx)), trivial⟩, ?turnW, ?doneW, fun x => x.elim⟩
    case turnW =>
      intro i k v ys9 news₁ h tk C oC m₂ hk hz0 hz1 hS hC hxx hyl I oI D9 Q' E' F' N' off ne hret _
      obtain ⟨u, rfl⟩ := hz0
      obtain ⟨o4, ws9, rfl, hT4, hlen4, hwk4, hr4⟩ := hz1
      k_extra "k_steps"
      rename_i Dn hx7 F7 N7 l7 cE7
      obtain ⟨N8, hR8⟩ := comp_front N7 l7.2.2.2.1 off hR
      clear N7
      refine draw K0 (by k_asm) (by k_asm) N8 (by k_asm) rfl (by decide) (by decide) hR8 hT4 (N8 (D, lst ys) (by simp)).1 hio (by decide) fun w5 u5 h' tk' o5 hw0 hw1 F' N' hT5 hst => ?_
      k_extra "k_steps"
      refine item_any (fun v => ∃ wd ∈ lawWords, TxtV (tx wd) v) (by k_asm) (by k_mem) hw0 (by simpa using hw1) (by show 4 ≤ _; omega) (fun v hv => ?_) ?_
      · simp only [List.mem_cons, List.not_mem_nil, or_false] at hv
        rcases hv with rfl | rfl | rfl | rfl
        · exact ⟨lawWords[0], by simp [lawWords], _, rfl⟩
        · exact ⟨lawWords[1], by simp [lawWords], _, rfl⟩
        · exact ⟨lawWords[2], by simp [lawWords], _, rfl⟩
        · exact ⟨lawWords[2], by simp [lawWords], _, rfl⟩
      rintro _ ⟨wd, hwd, uw, rfl⟩
      k_extra "k_steps"
      refine hret _ _ _ _ F' (comp_back N') ⟨off.1, off.2⟩ stand_nil ⟨o5, ws9 ++ [wd], rfl, hT5, by rw [List.length_append, hlen4]; rfl, fun x hx => ?_, hr4.snoc ⟨_, rfl⟩⟩
      rcases List.mem_append.mp hx with hx | hx
      · exact hwk4 x hx
      · rw [List.mem_singleton.mp hx]; exact hwd
    case doneW =>
      rintro ys9 nw ⟨o4, ws9, rfl, hT4, hlen4, hwk4, hr4⟩ hyl9
      intro D9 h tk F' N' off9
      rw [List.length_range] at hlen4
      have hR9 : ∀ p ∈ (D9, lst ys9) :: (D, lst ys) :: (s1.heap.objs.size + 1, oc2) :: (lc, listOf vs.toArray nv) :: objs, p.1 ≠ tp := fun p hp => by
        rcases List.mem_cons.mp hp with rfl | hp
        · exact Ne.symm off9.1
        · exact hR p hp
      have N9 : News _ _ h ((tp, o4) :: (D9, lst ys9) :: (D, lst ys) :: (s1.heap.objs.size + 1, oc2) :: (lc, listOf vs.toArray nv) :: objs) := (tape_front' N' off9.1 hR).1
      clear N'
      k_extra "k_steps"
      k_extra "ktr_step"
      k_extra "k_steps"
      refine draw K0 (by k_asm) (by k_asm) N9 (by k_asm) rfl (by decide) (by decide) hR9 hT4 (N9 (D, lst ys) (by simp)).1 hio (by decide) fun v7 u7 h' tk' o6 hv70 hv71 F' N' hT6 hst6 => ?_
      k_extra "k_steps"
      rename_i hR11 F11 N11 k11
      have e7 : v7 = ((v7.toNat : Nat) : Int) := by omega
      refine' ⟨Nat, List.range v7.toNat, (fun k v => ∃ u, v = .int (0 + (k : Int)) u), [], _, fun i zs nw => ∃ (o : Obj) (bs : List UInt8), nw = (tp, o) :: (D9, lst ys9) :: (D, lst ys) :: (s1.heap.objs.size + 1, oc2) :: (lc, listOf vs.toArray nv) :: objs ∧ TapeO D o ∧ bs.length = i ∧ Rel2 OctV bs zs, iter_range (n := v7.toNat) rfl hR11 (by rw [e7]; exact small1 (by omega)) (by rw [e7]; exact size1 _), F11, N11, (by rw [sizeLine_eq, List.length_range]; omega), ⟨o6, [], rfl, hT6, rfl, trivial⟩, ?turnP, ?doneP, fun x => x.elim⟩
      case turnP =>
        intro i k v ys12 news₁ h tk C oC m₂ hk hz0 hz1 hS hC hxx hyl I oI D12 Q' E' F' N' off ne hret _
        obtain ⟨u, rfl⟩ := hz0
        obtain ⟨o7, bs7, rfl, hT7, hlen7, hr7⟩ := hz1
        k_extra "k_steps"
        rename_i Dn hx7 F7 N7 l7 cE7
        obtain ⟨N8, hR8⟩ := comp_front N7 l7.2.2.2.1 off hR9
        clear N7
        refine draw K0 (by k_asm) (by k_asm) N8 (by k_asm) rfl (by decide) (by decide) hR8 hT7 (N8 (D, lst ys) (by simp)).1 hio (by decide) fun w5 u5 h' tk' o8 hw0 hw1 F' N' hT8 hst => ?_
        k_extra "k_steps"
        refine item_any (fun v => ∃ c : UInt8, OctV c v) (by k_asm) (by k_mem) hw0 (by simpa using hw1) (by show 5 ≤ _; omega) (fun v hv => ?_) ?_
        · simp only [List.mem_cons, List.not_mem_nil, or_false] at hv
          rcases hv with rfl | rfl | rfl | rfl | rfl
          · exact ⟨48, _, rfl⟩
          · exact ⟨0, _, rfl⟩
          · exact ⟨10, _, rfl⟩
          · exact ⟨80, _, rfl⟩
          · exact ⟨255, _, rfl⟩
        rintro _ ⟨c8, u8, rfl⟩
        k_extra "k_steps"
        exact hret _ _ _ _ F' (comp_back N') ⟨off.1, off.2⟩ stand_nil ⟨o8, bs7 ++ [c8], rfl, hT8, by rw [List.length_append, hlen7]; rfl, hr7.snoc ⟨_, rfl⟩⟩
      case doneP =>
        rintro ys12 nw ⟨o7, bs7, rfl, hT7, hlen7, hr7⟩ hyl12
        rw [List.length_range] at hlen7
        intro D12 h tk F' N' off12
        k_extra "k_steps"
        refine bytes_of_list (by k_asm) (by k_asm) rfl (News.isList (by k_asm) (by k_mem)) hr7 (by omega) fun h' t' k' F' N' => ?_
        k_extra "k_steps"
        rename_i F12 N12
        have hwl : ws9.length ≤ 4 := by omega
        have hpk : bs7.length ≤ 5 := by omega
        have hn4 : n ≤ 4 := by omega
        have hlct : lc ≠ tp := hR9 (lc, listOf vs.toArray nv) (by simp)
        have hlwt : D9 ≠ tp := hR9 (D9, lst ys9) (by simp)
        have cmH : ∀ {g h : Heap} {L : Addr} {o : Obj}, News g L h ((tp, o) :: (D9, lst ys9) :: (D, lst ys) :: (s1.heap.objs.size + 1, oc2) :: (lc, listOf vs.toArray nv) :: objs) → h.get? lc = some (listOf vs.toArray nv) ∧ Rel2 (CmdH h) cmds vs ∧ h.get? D9 = some (lst ys9) ∧ h.get? D = some (lst ys) := fun N => ⟨(N (lc, _) (by simp)).1, hcm.mono fun c v => by
          rintro ⟨x, a1, a2, a3, a4, rfl, hx⟩
          exact ⟨x, a1, a2, a3, a4, rfl, (N (x, _) (by simp [hx])).1⟩, (N (D9, _) (by simp)).1, (N (D, _) (by simp)).1⟩
        have N13 : News _ _ _ ((tp, o7) :: (D9, lst ys9) :: (D, lst ys) :: (s1.heap.objs.size + 1, oc2) :: (lc, listOf vs.toArray nv) :: objs) := news_weak N12 fun p hp => List.mem_cons_of_mem _ hp
        clear N12
        obtain ⟨c1, c2, c3, c4⟩ := cmH N13
        refine UTSpec.use (law_rows_right_spec tp D lc _ n nv cmds vs hn4 hcl hokc) K0 (by k_asm) KX N13 T ktsDicts_nil rfl (by decide) (by decide) ⟨hlct, c1, c2⟩ (.head hR9) hT7 c4 hio ?_
        rintro r h' tk' g1 o8 Tn1 B1 F' N' X1 T1 D1 hT8 Ef rfl
        clear c1 c2 c3 c4
        k_extra "k_steps"
        obtain ⟨c1, c2, c3, c4⟩ := cmH N'
        refine USpec.use (law_written_spec lc D9 _ _ n nv ys9.length cmds vs ws9 ys9 bs7 hn4 hcl hokc hwl hwk4 hpk hr4 (written_pure hn4 hokc hwl hwk4)) B1 (by k_asm) KX N' T D1 rfl (by decide) (by decide) ⟨c1, c2, c3⟩ ?_
        rintro r tl h' tk' g2 Tn2 B2 F' N' X2 T2 D2 hsep2 Ef2 ⟨rfl, rfl⟩
        dsimp only [List.nil_append] at N'
        clear c1 c2 c3 c4
        k_extra "k_steps"
        obtain ⟨c1, c2, c3, c4⟩ := cmH N'
        refine UTSpec.use (law_other_spec tp D lc D9 _ _ n nv ys9.length cmds vs ws9 ys9 bs7 hn4 hcl hokc hwl hwk4 hpk hr4 (oth_pure hn hokc hwl hwk4)) B2 (by k_asm) KX N' T D2 rfl (by decide) (by decide) ⟨hlct, hlwt, c1, c2, c3⟩ (.head hR9) hT8 c4 hio ?_
        rintro r h' tk' g3 o9 Tn3 B3 F' N' X3 T3 D3 hT9 Ef3 rfl
        k_extra "k_steps"
        have FF := law_keep Tn1 Tn2 Tn3 F'
        refine goodW_bool FF hg (raisesW_false ?_) ?_
        · wrow_none_raised
        · wrow_post
theorem all : ∀ a0 a1 a2 a3 a4 a5 a6 a7 a8 a9 a10 a11 a12 a13 a14 a15 a16 a17 a18, law_holds_sb1.1 a0 a1 a2 a3 a4 a5 a6 a7 a8 a9 a10 a11 a12 a13 a14 a15 a16 a17 a18 := by
  have q1 : (fun q : (World) × (Shared) × (Shared) × (Str → Option Value) × (Str → Option Value) × (Addr) × (Obj) × (Value) × (Value) × (Addr) × (Obj) × (Addr) × (Addr) × (List Int) × (Addr) × (List Value) × (Heap) × (Nat) × (Obj) × Unit => law_holds_sb1.1 q.1 q.2.1 q.2.2.1 q.2.2.2.1 q.2.2.2.2.1 q.2.2.2.2.2.1 q.2.2.2.2.2.2.1 q.2.2.2.2.2.2.2.1 q.2.2.2.2.2.2.2.2.1 q.2.2.2.2.2.2.2.2.2.1 q.2.2.2.2.2.2.2.2.2.2.1 q.2.2.2.2.2.2.2.2.2.2.2.1 q.2.2.2.2.2.2.2.2.2.2.2.2.1 q.2.2.2.2.2.2.2.2.2.2.2.2.2.1 q.2.2.2.2.2.2.2.2.2.2.2.2.2.2.1 q.2.2.2.2.2.2.2.2.2.2.2.2.2.2.2.1 q.2.2.2.2.2.2.2.2.2.2.2.2.2.2.2.2.1 q.2.2.2.2.2.2.2.2.2.2.2.2.2.2.2.2.2.1 q.2.2.2.2.2.2.2.2.2.2.2.2.2.2.2.2.2.2.1) (pick ⟨⟨dW, dS, dS, default, default, default, default, default, default, default, default, default, default, default, default, default, default, default, default, ()⟩⟩ fun q => law_holds_sb1.1 q.1 q.2.1 q.2.2.1 q.2.2.2.1 q.2.2.2.2.1 q.2.2.2.2.2.1 q.2.2.2.2.2.2.1 q.2.2.2.2.2.2.2.1 q.2.2.2.2.2.2.2.2.1 q.2.2.2.2.2.2.2.2.2.1 q.2.2.2.2.2.2.2.2.2.2.1 q.2.2.2.2.2.2.2.2.2.2.2.1 q.2.2.2.2.2.2.2.2.2.2.2.2.1 q.2.2.2.2.2.2.2.2.2.2.2.2.2.1 q.2.2.2.2.2.2.2.2.2.2.2.2.2.2.1 q.2.2.2.2.2.2.2.2.2.2.2.2.2.2.2.1 q.2.2.2.2.2.2.2.2.2.2.2.2.2.2.2.2.1 q.2.2.2.2.2.2.2.2.2.2.2.2.2.2.2.2.2.1 q.2.2.2.2.2.2.2.2.2.2.2.2.2.2.2.2.2.2.1) := by with_unfolding_all exact main
  exact fun a0 a1 a2 a3 a4 a5 a6 a7 a8 a9 a10 a11 a12 a13 a14 a15 a16 a17 a18 => pick_spec (P := fun q : (World) × (Shared) × (Shared) × (Str → Option Value) × (Str → Option Value) × (Addr) × (Obj) × (Value) × (Value) × (Addr) × (Obj) × (Addr) × (Addr) × (List Int) × (Addr) × (List Value) × (Heap) × (Nat) × (Obj) × Unit => law_holds_sb1.1 q.1 q.2.1 q.2.2.1 q.2.2.2.1 q.2.2.2.2.1 q.2.2.2.2.2.1 q.2.2.2.2.2.2.1 q.2.2.2.2.2.2.2.1 q.2.2.2.2.2.2.2.2.1 q.2.2.2.2.2.2.2.2.2.1 q.2.2.2.2.2.2.2.2.2.2.1 q.2.2.2.2.2.2.2.2.2.2.2.1 q.2.2.2.2.2.2.2.2.2.2.2.2.1 q.2.2.2.2.2.2.2.2.2.2.2.2.2.1 q.2.2.2.2.2.2.2.2.2.2.2.2.2.2.1 q.2.2.2.2.2.2.2.2.2.2.2.2.2.2.2.1 q.2.2.2.2.2.2.2.2.2.2.2.2.2.2.2.2.1 q.2.2.2.2.2.2.2.2.2.2.2.2.2.2.2.2.2.1 q.2.2.2.2.2.2.2.2.2.2.2.2.2.2.2.2.2.2.1) (ne := ⟨⟨dW, dS, dS, default, default, default, default, default, default, default, default, default, default, default, default, default, default, default, default, ()⟩⟩) q1 ⟨a0, a1, a2, a3, a4, a5, a6, a7, a8, a9, a10, a11, a12, a13, a14, a15, a16, a17, a18, ()⟩
end law_holds_go
theorem law_holds : PySem.Challenge.rw_pb0105_01.Holds := law_holds_sb1.2 law_holds_go.all
end
end Mine
end
set_option maxRecDepth 100000 in
theorem PySem.Challenge.cw_pb0105_01_holds : PySem.Challenge.rw_pb0105_01.Holds :=
  Mine.law_holds
