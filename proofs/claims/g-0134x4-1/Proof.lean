import JvmDerived
import JvmDerived.Pilot.@@N@@Statement
import JvmDerived.Pilot.@@N@@Code
set_option linter.unusedVariables false
set_option linter.unusedSimpArgs false
namespace Jvm.RoadKit
open Sem ClassFile Op Lib Jvm.Stand Jvm.Free Jvm.LawKit
section New
variable {p : Program} {l : Launch} {e : Env} {R : Room} {s : State} {m : MethodId} {args : Array Value} {below : List Frame} {meth : Method} {c : Code} {T : State} {locs : List Loc} {cells slots : Nat}
theorem retI (X : Stand p l e R s m args below meth c T locs cells slots) (hx : p.tables.exec = Jvm.exec) {pc : Nat} {Ls : Array Slot} {z : Int32} {rest : List Value} (hret : meth.sig.returnType = some .int) (hd : decode c.code pc = .ok (.ireturn, 1)) {fs : List Frame}
    (hl : ∀ (f : JFrame) (acts : List Action), f.method = m → f.locked = none → f.entered = [] → (doReturn e (T.setTop f) acts (some (.int z))).1 = T.setFrames fs) : Steps p.tables e below (T.setTop (mkF m pc Ls (.int z :: rest))) (T.setFrames fs) := by
  have hm' : T.vm.method? m = some meth := X.method'
  have hn : narrow .int (.int z) = .int z := rfl
  show Steps p.tables e below (T.setTop { method := m, pc := pc, locals := Ls, stack := _ :: rest, locked := none }) _
  jvm_step X.here [X.here.top, hx, hd, hm', hret, hn]
  first | (intro acts; rw [hl _ acts rfl rfl rfl]) | rw [hl _ _ rfl rfl rfl]
  exact Steps.refl _
end New
end Jvm.RoadKit
namespace Jvm.Pilot.@@N@@
open Jvm Jvm.ClassFile Sem Op Lib Jvm.Free Jvm.Stand Jvm.LawKit Jvm.RoadKit Bundle Jvm.Pilot.@@N@@.Jvm.D
/- records: scalars, int-like arrays, long arrays -/
abbrev Rec : Type := (Nat → Int32) × (Nat → Int32 → Int32) × (Nat → Int32 → Int64)
def zrec : Rec := (fun _ => 0, fun _ _ => 0, fun _ _ => 0)
def gI (ob : Rec) (k : Nat) : Int32 := ob.1 k
def gA (ob : Rec) (k : Nat) (i : Int32) : Int32 := ob.2.1 k i
def gJ (ob : Rec) (k : Nat) (i : Int32) : Int64 := ob.2.2 k i
def sI (ob : Rec) (k : Nat) (v : Int32) : Rec := (fun j => if j = k then v else ob.1 j, ob.2)
def sA (ob : Rec) (k : Nat) (i v : Int32) : Rec := (ob.1, fun j x => if j = k ∧ x = i then v else ob.2.1 j x, ob.2.2)
def sJ (ob : Rec) (k : Nat) (i : Int32) (v : Int64) : Rec := (ob.1, ob.2.1, fun j x => if j = k ∧ x = i then v else ob.2.2 j x)
def chk {γ : Type} (n i : Int32) (A : Option γ) : Option γ := if i < 0 then none else if i < n then A else none
def dvz {γ : Type} (y : Int32) (A : Option γ) : Option γ := if y = 0 then none else A
def bind2 {α β γ : Type} (o : Option (α × β)) (f : α → β → Option γ) : Option γ := o.bind fun q => f q.1 q.2
def bind3 {α β γ δ : Type} (o : Option (α × β × δ)) (f : α → β → δ → Option γ) : Option γ := o.bind fun q => f q.1 q.2.1 q.2.2
theorem ite_el {c : Prop} [Decidable c] {γ : Type} {A B : Option γ} {r : γ} {Q : Prop} (h : (if c then A else B) = some r) (t : c → A = some r → Q) (e : ¬ c → B = some r → Q) : Q := by
  by_cases hc : c
  · rw [if_pos hc] at h; exact t hc h
  · rw [if_neg hc] at h; exact e hc h
theorem bind_el {α γ : Type} {o : Option α} {f : α → Option γ} {r : γ} {Q : Prop} (h : o.bind f = some r) (k : ∀ x, o = some x → f x = some r → Q) : Q := by
  cases o with
  | none => cases h
  | some x => exact k x rfl h
theorem bind2_el {α β γ : Type} {o : Option (α × β)} {f : α → β → Option γ} {r : γ} {Q : Prop} (h : bind2 o f = some r) (k : ∀ x y, o = some (x, y) → f x y = some r → Q) : Q := by
  rcases o with _ | ⟨x, y⟩
  · cases h
  · exact k x y rfl h
theorem bind3_el {α β γ δ : Type} {o : Option (α × β × δ)} {f : α → β → δ → Option γ} {r : γ} {Q : Prop} (h : bind3 o f = some r) (k : ∀ x y z, o = some (x, y, z) → f x y z = some r → Q) : Q := by
  rcases o with _ | ⟨x, y, z⟩
  · cases h
  · exact k x y z rfl h
theorem chk_el {γ : Type} {n i : Int32} {A : Option γ} {r : γ} {Q : Prop} (h : chk n i A = some r) (k : (¬ i < 0 ∧ i < n) → A = some r → Q) : Q := by
  unfold chk at h
  by_cases h0 : i < 0
  · rw [if_pos h0] at h; cases h
  · rw [if_neg h0] at h
    by_cases h1 : i < n
    · rw [if_pos h1] at h; exact k ⟨h0, h1⟩ h
    · rw [if_neg h1] at h; cases h
theorem dvz_el {γ : Type} {y : Int32} {A : Option γ} {r : γ} {Q : Prop} (h : dvz y A = some r) (k : y ≠ 0 → A = some r → Q) : Q := by
  unfold dvz at h
  by_cases h0 : y = 0
  · rw [if_pos h0] at h; cases h
  · rw [if_neg h0] at h; exact k h0 h
def All {α : Type} (p : α → Prop) : List α → Prop
  | [] => True
  | x :: l => p x ∧ All p l
theorem All.mem {α : Type} {p : α → Prop} : ∀ {l : List α}, All p l → ∀ {x : α}, x ∈ l → p x
  | [], _, _, h => nomatch h
  | _ :: _, H, _, h => (List.mem_cons.mp h).elim (fun e => e ▸ H.1) (fun e => All.mem H.2 e)
def el (ty : FieldType) (ob : Rec) (k : Nat) (j : Int32) : Value := match ty with
  | .long => .long (ob.2.2 k j)
  | _ => .int (ob.2.1 k j)
def aD (ty : FieldType) : String := match ty with
  | .int => "[I"
  | .boolean => "[Z"
  | _ => "[J"
abbrev Cls : Type := String × List (String × String) × List (String × FieldType × Int32)
abbrev mem1 (k : Nat) {d : Jvm.Cond} (h : tables_1[k]? = some d) : d ∈ tables_1 := List.mem_of_getElem? h
abbrev sOk (C : String) (nd : String × String) : Prop := (Jvm.Cond.lays C C nd.1 nd.2 ∈ tables_1 ∨ Jvm.Cond.laysFinal C C nd.1 nd.2 ∈ tables_1) ∧ (nd.2 = "I" ∨ nd.2 = "Z")
abbrev aOk (C : String) (t : String × FieldType × Int32) : Prop := (Jvm.Cond.lays C C t.1 (aD t.2.1) ∈ tables_1 ∨ Jvm.Cond.laysFinal C C t.1 (aD t.2.1) ∈ tables_1) ∧ (t.2.1 = .int ∨ t.2.1 = .boolean ∨ t.2.1 = .long) ∧ ¬ t.2.2 < 0
def K : Cls := ("CausalStable", [("n", "I"), ("cap", "I")], [("sentCount", .int, 8), ("crashedFlag", .boolean, 8), ("del", .int, 64), ("msgState", .int, 512), ("stampArr", .int, 512), ("copyArr", .int, 512), ("known", .int, 512), ("list", .int, 512), ("listLen", .int, 8)])
theorem kS : All (sOk K.1) K.2.1 := ⟨⟨Or.inl (mem1 30 rfl), Or.inl rfl⟩, ⟨Or.inl (mem1 32 rfl), Or.inl rfl⟩, trivial⟩
theorem kA : All (aOk K.1) K.2.2 := ⟨⟨Or.inl (mem1 11 rfl), Or.inl rfl, by decide⟩, ⟨Or.inl (mem1 14 rfl), Or.inr (Or.inl rfl), by decide⟩, ⟨Or.inl (mem1 16 rfl), Or.inl rfl, by decide⟩, ⟨Or.inl (mem1 18 rfl), Or.inl rfl, by decide⟩, ⟨Or.inl (mem1 20 rfl), Or.inl rfl, by decide⟩, ⟨Or.inl (mem1 22 rfl), Or.inl rfl, by decide⟩, ⟨Or.inl (mem1 24 rfl), Or.inl rfl, by decide⟩, ⟨Or.inl (mem1 26 rfl), Or.inl rfl, by decide⟩, ⟨Or.inl (mem1 28 rfl), Or.inl rfl, by decide⟩, trivial⟩
abbrev kN : Nat := 11
theorem kI : Jvm.Cond.instantiable K.1 kN ∈ tables_1 := mem1 1 rfl
theorem kZ : Jvm.Cond.initialized K.1 ∈ tables_1 := mem1 2 rfl
theorem kNm : (K.2.1.map (·.1) ++ K.2.2.map (·.1)).Nodup := by decide +kernel
theorem nm_ss {k k' : Nat} {nd nd' : String × String} (h : K.2.1[k]? = some nd) (h' : K.2.1[k']? = some nd') (ne : k ≠ k') : nd.1 ≠ nd'.1 := fun e => by
  have l := (List.getElem?_eq_some_iff.mp h).1
  have l' := (List.getElem?_eq_some_iff.mp h').1
  refine ne ((List.getElem?_inj (l := K.2.1.map (·.1) ++ K.2.2.map (·.1)) (i := k) (j := k') (by simp; omega) kNm).mp ?_)
  rw [List.getElem?_append_left (by simpa using l), List.getElem?_append_left (by simpa using l'), List.getElem?_map, List.getElem?_map, h, h']
  simp [e]
theorem nm_aa {k k' : Nat} {t t' : String × FieldType × Int32} (h : K.2.2[k]? = some t) (h' : K.2.2[k']? = some t') (ne : k ≠ k') : t.1 ≠ t'.1 := fun e => by
  have l := (List.getElem?_eq_some_iff.mp h).1
  have l' := (List.getElem?_eq_some_iff.mp h').1
  have q := (List.getElem?_inj (l := K.2.1.map (·.1) ++ K.2.2.map (·.1)) (i := K.2.1.length + k) (j := K.2.1.length + k') (by simp; omega) kNm).mp (by
    rw [List.getElem?_append_right (by simp), List.getElem?_append_right (by simp)]
    simp [h, h', e])
  omega
theorem nm_sa {k k' : Nat} {nd : String × String} {t : String × FieldType × Int32} (h : K.2.1[k]? = some nd) (h' : K.2.2[k']? = some t) : nd.1 ≠ t.1 := fun e => by
  have l := (List.getElem?_eq_some_iff.mp h).1
  have l' := (List.getElem?_eq_some_iff.mp h').1
  have q := (List.getElem?_inj (l := K.2.1.map (·.1) ++ K.2.2.map (·.1)) (i := k) (j := K.2.1.length + k') (by simp; omega) kNm).mp (by
    rw [List.getElem?_append_left (by simpa using l), List.getElem?_append_right (by simp)]
    simp [h, h', e])
  omega
abbrev Ctx : Type := Launch × State × Nat × Array Value
def Ok (C : Ctx) : Prop := ∀ d ∈ tables_1, d.before C.2.2.2 C.2.1 = true
def ArrAt (Z : State) (h : Heap) (b : Nat) (ty : FieldType) (len : Int32) (v : Int32 → Value) : Prop := ∃ cl : Cell, Arr Z h b cl ty ∧ cl.slots.size = len.toNatClampNeg ∧ ∀ j : Int32, ¬ j < 0 → j < len → cl.slots[j.toNatClampNeg]? = some (v j)
def ObjAt (Z : State) (h : Heap) (a : Nat) (q : Nat) (ob : Rec) : Prop :=
  Exa Z h a K.1 ∧ (∀ k nd, K.2.1[k]? = some nd → Fld Z h a K.1 nd.1 nd.2 (.int (ob.1 k))) ∧
  (∀ k t, K.2.2[k]? = some t → k < q → Fld Z h a K.1 t.1 (aD t.2.1) (.ref (a + 1 + k)) ∧ ArrAt Z h (a + 1 + k) t.2.1 t.2.2 (el t.2.1 ob k)) ∧
  (∀ k t, K.2.2[k]? = some t → q ≤ k → Fld Z h a K.1 t.1 (aD t.2.1) .null)
abbrev AH : Type := Nat × List (Nat × Nat × Rec)
def Rep (Z : State) (n0 : Nat) (h : Heap) (G : AH) : Prop :=
  h.size = G.1 ∧ Old Z n0 h ∧ (∀ x ∈ G.2, n0 ≤ x.1 ∧ x.1 + x.2.1 < G.1 ∧ ObjAt Z h x.1 x.2.1 x.2.2) ∧ G.2.Pairwise (fun x y => x.1 + x.2.1 < y.1 ∨ y.1 + y.2.1 < x.1)
section Facts
variable {Z : State} {h h' : Heap} {a b : Nat} {q k n0 top : Nat} {ob ob' : Rec} {nd : String × String} {t : String × FieldType × Int32} {a0 : Array Value} {sl : Nat} {v : Value} {H : List (Nat × Nat × Rec)} {G : AH}
theorem fld_fr {C n d : String} (e : h'[a]? = h[a]?) (F : Fld Z h a C n d v) : Fld Z h' a C n d v := by
  obtain ⟨cell, cf, k, i, f, h1, r⟩ := F; exact ⟨cell, cf, k, i, f, e.trans h1, r⟩
theorem exa_fr {C : String} (e : h'[a]? = h[a]?) (F : Exa Z h a C) : Exa Z h' a C := by
  obtain ⟨cell, k, h1, r⟩ := F; exact ⟨cell, k, e.trans h1, r⟩
theorem arrAt_fr {ty : FieldType} {len : Int32} {w : Int32 → Value} (e : h'[a]? = h[a]?) (F : ArrAt Z h a ty len w) : ArrAt Z h' a ty len w := by
  obtain ⟨cl, A, r⟩ := F; exact ⟨cl, ⟨e.trans A.1, A.2⟩, r⟩
theorem ObjAt.frame (e : ∀ b, a ≤ b → b ≤ a + q → h'[b]? = h[b]?) (F : ObjAt Z h a q ob) : ObjAt Z h' a q ob := by
  have e0 := e a (Nat.le_refl _) (Nat.le_add_right _ _)
  refine ⟨exa_fr e0 F.1, fun k nd hk => fld_fr e0 (F.2.1 k nd hk), fun k t hk hq => ⟨fld_fr e0 (F.2.2.1 k t hk hq).1, arrAt_fr (e _ (by omega) (by omega)) (F.2.2.1 k t hk hq).2⟩, fun k t hk hq => fld_fr e0 (F.2.2.2 k t hk hq)⟩
theorem ObjAt.ext (E : Ext h h') (F : ObjAt Z h a q ob) : ObjAt Z h' a q ob := by
  refine ⟨F.1.ext E, fun k nd hk => (F.2.1 k nd hk).ext E, fun k t hk hq => ⟨(F.2.2.1 k t hk hq).1.ext E, ?_⟩, fun k t hk hq => (F.2.2.2 k t hk hq).ext E⟩
  obtain ⟨cl, A, r⟩ := (F.2.2.1 k t hk hq).2; exact ⟨cl, A.ext E, r⟩
theorem wr_ne (W : Wr h h' a sl v) (ne : b ≠ a) : h'[b]? = h[b]? := by
  obtain ⟨cell, -, -, -, rfl⟩ := W; exact Array.getElem?_setIfInBounds_ne (Ne.symm ne)
theorem laidS (hw : ∀ d ∈ tables_1, d.before a0 Z = true) (hk : K.2.1[k]? = some nd) : Laid Z a0 K.1 K.1 nd.1 nd.2 := ((All.mem kS (List.mem_of_getElem? hk)).1).imp (hw _) (hw _)
theorem laidA (hw : ∀ d ∈ tables_1, d.before a0 Z = true) (hk : K.2.2[k]? = some t) : Laid Z a0 K.1 K.1 t.1 (aD t.2.1) := ((All.mem kA (List.mem_of_getElem? hk)).1).imp (hw _) (hw _)
theorem pfS (hk : K.2.1[k]? = some nd) : ∃ ty, parseFieldDescriptor nd.2 = some ty := by
  rcases (All.mem kS (List.mem_of_getElem? hk)).2 with e | e <;> rw [e]
  · exact ⟨.int, by decide⟩
  · exact ⟨.boolean, by decide⟩
theorem pfA (hk : K.2.2[k]? = some t) : parseFieldDescriptor (aD t.2.1) = some (.array t.2.1) := by
  rcases (All.mem kA (List.mem_of_getElem? hk)).2.1 with e | e | e <;> rw [e] <;> decide
theorem ObjAt.putI {x : Int32} (hw : ∀ d ∈ tables_1, d.before a0 Z = true) (F : ObjAt Z h a q ob) (hk : K.2.1[k]? = some nd) (W : Wr h h' a (Jvm.RoadKit.slotOf Z K.1 nd.1 nd.2) (.int x)) : ObjAt Z h' a q (sI ob k x) := by
  obtain ⟨ty, hty⟩ := pfS hk
  refine ⟨F.1.wr W, fun k' nd' hk' => ?_, fun k' t hk' hq => ⟨(F.2.2.1 k' t hk' hq).1.other W (Or.inr (Jvm.RoadKit.slot_ne (laidA hw hk') (laidS hw hk) (Ne.symm (nm_sa hk hk')) (pfA hk') hty)), ?_⟩, fun k' t hk' hq => (F.2.2.2 k' t hk' hq).other W (Or.inr (Jvm.RoadKit.slot_ne (laidA hw hk') (laidS hw hk) (Ne.symm (nm_sa hk hk')) (pfA hk') hty))⟩
  · by_cases e : k' = k
    · subst e; cases hk.symm.trans hk'
      have := (F.2.1 k' nd hk).same W
      simpa [sI] using this
    · obtain ⟨ty', hty'⟩ := pfS hk'
      have := (F.2.1 k' nd' hk').other W (Or.inr (Jvm.RoadKit.slot_ne (laidS hw hk') (laidS hw hk) (nm_ss hk' hk e) hty' hty))
      simpa [sI, e] using this
  · have := arrAt_fr (wr_ne W (by omega)) (F.2.2.1 k' t hk' hq).2
    have e : el t.2.1 (sI ob k x) k' = el t.2.1 ob k' := by funext j; unfold el; split <;> rfl
    rw [e]; exact this
theorem ObjAt.putA (F : ObjAt Z h a q ob) (hk : K.2.2[k]? = some t) (hq : k < q) {x : Value} {j : Int32} (hj : ¬ j < 0 ∧ j < t.2.2) (W : Wr h h' (a + 1 + k) j.toNatClampNeg x)
    (e1 : el t.2.1 ob' k = fun i => if i = j then x else el t.2.1 ob k i) (e2 : ∀ k' t', k' ≠ k → el t' ob' k' = el t' ob k') (e3 : ob'.1 = ob.1) : ObjAt Z h' a q ob' := by
  have u : h'[a]? = h[a]? := wr_ne W (by omega)
  refine ⟨exa_fr u F.1, fun k' nd hk' => by rw [e3]; exact fld_fr u (F.2.1 k' nd hk'), fun k' t' hk' hq' => ⟨fld_fr u (F.2.2.1 k' t' hk' hq').1, ?_⟩, fun k' t' hk' hq' => fld_fr u (F.2.2.2 k' t' hk' hq')⟩
  by_cases e : k' = k
  · subst e; cases hk.symm.trans hk'
    obtain ⟨cl, A, S, V⟩ := (F.2.2.1 k' t hk hq).2
    have inb : ¬ (j < 0 ∨ cl.slots.size ≤ j.toNatClampNeg) := inb_of S hj
    refine ⟨_, A.same W, by rw [sz_set]; exact S, fun i h0 h1 => ?_⟩
    rw [e1]
    by_cases ei : i = j
    · simp only [ei, if_true]; exact get_hit inb rfl
    · simp only [ei, if_false]; rw [get_miss hj.1 h0 ei]; exact V i h0 h1
  · rw [e2 k' _ e]; exact arrAt_fr (wr_ne W (by omega)) (F.2.2.1 k' t' hk' hq').2
theorem el_sA {ty : FieldType} (ht : ty ≠ .long) (j x : Int32) : el ty (sA ob k j x) k = fun i => if i = j then .int x else el ty ob k i := by
  funext i; cases ty <;> first | exact absurd rfl ht | (simp only [el, sA, true_and]; split <;> rfl)
theorem el_sJ (j : Int32) (x : Int64) : el .long (sJ ob k j x) k = fun i => if i = j then .long x else el .long ob k i := by
  funext i; simp only [el, sJ, true_and]; split <;> rfl
theorem el_sA' (j x : Int32) (k' : Nat) (t' : FieldType) (ne : k' ≠ k) : el t' (sA ob k j x) k' = el t' ob k' := by
  funext i; cases t' <;> simp [el, sA, ne]
theorem el_sJ' (j : Int32) (x : Int64) (k' : Nat) (t' : FieldType) (ne : k' ≠ k) : el t' (sJ ob k j x) k' = el t' ob k' := by
  funext i; cases t' <;> simp [el, sJ, ne]
theorem Rep.upd (R : Rep Z n0 h (top, (a, q, ob) :: H)) (hs : h'.size = h.size) (hO : Old Z n0 h') (e : ∀ b, (b < a ∨ a + q < b) → h'[b]? = h[b]?) (F : ObjAt Z h' a q ob') : Rep Z n0 h' (top, (a, q, ob') :: H) := by
  obtain ⟨r1, r2, r3, r4⟩ := R
  refine ⟨hs.trans r1, hO, fun x hx => ?_, ?_⟩
  · rcases List.mem_cons.mp hx with rfl | hx
    · exact ⟨(r3 _ (List.mem_cons_self ..)).1, (r3 _ (List.mem_cons_self ..)).2.1, F⟩
    · obtain ⟨p1, p2, p3⟩ := r3 x (List.mem_cons_of_mem _ hx)
      refine ⟨p1, p2, p3.frame fun b h1 h2 => e b ?_⟩
      have := (List.pairwise_cons.mp r4).1 x hx
      simp only at this
      omega
  · have := List.pairwise_cons.mp r4
    exact List.pairwise_cons.mpr ⟨fun y hy => this.1 y hy, this.2⟩
theorem Rep.objs (R : Rep Z n0 h (top, (a, q, ob) :: H)) : n0 ≤ a ∧ a + q < top ∧ ObjAt Z h a q ob := R.2.2.1 _ (List.mem_cons_self ..)
theorem Rep.putI {x : Int32} (hw : ∀ d ∈ tables_1, d.before a0 Z = true) (R : Rep Z n0 h (top, (a, q, ob) :: H)) (hk : K.2.1[k]? = some nd) (W : Wr h h' a (Jvm.RoadKit.slotOf Z K.1 nd.1 nd.2) (.int x)) : Rep Z n0 h' (top, (a, q, sI ob k x) :: H) :=
  R.upd W.size (R.2.1.wr W R.objs.1) (fun b hb => wr_ne W (by omega)) (R.objs.2.2.putI hw hk W)
theorem Rep.putA {x j : Int32} (R : Rep Z n0 h (top, (a, q, ob) :: H)) (hk : K.2.2[k]? = some t) (hq : k < q) (ht : t.2.1 ≠ .long) (hj : ¬ j < 0 ∧ j < t.2.2) (W : Wr h h' (a + 1 + k) j.toNatClampNeg (.int x)) : Rep Z n0 h' (top, (a, q, sA ob k j x) :: H) :=
  R.upd W.size (R.2.1.wr W (by have := R.objs.1; omega)) (fun b hb => wr_ne W (by omega)) (R.objs.2.2.putA hk hq hj W (el_sA ht j x) (fun k' t' ne => el_sA' j x k' t' ne) rfl)
theorem Rep.putJ {j : Int32} {x : Int64} (R : Rep Z n0 h (top, (a, q, ob) :: H)) (hk : K.2.2[k]? = some t) (hq : k < q) (ht : t.2.1 = .long) (hj : ¬ j < 0 ∧ j < t.2.2) (W : Wr h h' (a + 1 + k) j.toNatClampNeg (.long x)) : Rep Z n0 h' (top, (a, q, sJ ob k j x) :: H) :=
  R.upd W.size (R.2.1.wr W (by have := R.objs.1; omega)) (fun b hb => wr_ne W (by omega)) (R.objs.2.2.putA hk hq hj W (by rw [ht]; exact el_sJ j x) (fun k' t' ne => el_sJ' j x k' t' ne) rfl)
theorem Rep.swap {x y : Nat × Nat × Rec} (R : Rep Z n0 h (top, x :: y :: H)) : Rep Z n0 h (top, y :: x :: H) := by
  obtain ⟨r1, r2, r3, r4⟩ := R
  refine ⟨r1, r2, fun z hz => r3 z ?_, ?_⟩
  · simp only [List.mem_cons] at hz ⊢
    rcases hz with e | e | e
    · exact Or.inr (Or.inl e)
    · exact Or.inl e
    · exact Or.inr (Or.inr e)
  · simp only [List.pairwise_cons, List.mem_cons] at r4 ⊢
    obtain ⟨p1, p2, p3⟩ := r4
    refine ⟨fun z hz => ?_, fun z hz => p1 z (Or.inr hz), p3⟩
    rcases hz with rfl | hz
    · exact (p1 _ (Or.inl rfl)).symm
    · exact p2 z hz
theorem ObjAt.addA (hw : ∀ d ∈ tables_1, d.before a0 Z = true) (F : ObjAt Z h a k ob) (hk : K.2.2[k]? = some t) (A : ArrAt Z h (a + 1 + k) t.2.1 t.2.2 (el t.2.1 ob k)) (W : Wr h h' a (Jvm.RoadKit.slotOf Z K.1 t.1 (aD t.2.1)) (.ref (a + 1 + k))) : ObjAt Z h' a (k + 1) ob := by
  refine ⟨F.1.wr W, fun k' nd hk' => ?_, fun k' t' hk' hq => ?_, fun k' t' hk' hq => ?_⟩
  · obtain ⟨ty', hty'⟩ := pfS hk'
    exact (F.2.1 k' nd hk').other W (Or.inr (Jvm.RoadKit.slot_ne (laidS hw hk') (laidA hw hk) (nm_sa hk' hk) hty' (pfA hk)))
  · by_cases e : k' = k
    · subst e
      have et : t = t' := Option.some.inj (hk.symm.trans hk')
      subst et
      exact ⟨(F.2.2.2 k' t hk (Nat.le_refl _)).same W, arrAt_fr (wr_ne W (by omega)) A⟩
    · obtain ⟨f1, f2⟩ := F.2.2.1 k' t' hk' (by omega)
      exact ⟨f1.other W (Or.inr (Jvm.RoadKit.slot_ne (laidA hw hk') (laidA hw hk) (nm_aa hk' hk e) (pfA hk') (pfA hk))), arrAt_fr (wr_ne W (by omega)) f2⟩
  · exact (F.2.2.2 k' t' hk' (by omega)).other W (Or.inr (Jvm.RoadKit.slot_ne (laidA hw hk') (laidA hw hk) (nm_aa hk' hk (by omega)) (pfA hk') (pfA hk)))
theorem Rep.addA {h1 h2 : Heap} (hw : ∀ d ∈ tables_1, d.before a0 Z = true) (R : Rep Z n0 h (top, (a, k, ob) :: H)) (E : Ext h h1) (s1 : h1.size = top + 1) (htop : top = a + 1 + k) (hk : K.2.2[k]? = some t) (A : ArrAt Z h1 top t.2.1 t.2.2 (el t.2.1 ob k)) (W : Wr h1 h2 a (Jvm.RoadKit.slotOf Z K.1 t.1 (aD t.2.1)) (.ref top)) : Rep Z n0 h2 (top + 1, (a, k + 1, ob) :: H) := by
  obtain ⟨q1, q2, q3⟩ := R.objs
  have hp := List.pairwise_cons.mp R.2.2.2
  have hO : ObjAt Z h2 a (k + 1) ob := by
    subst htop
    exact (q3.ext E).addA hw hk A W
  refine ⟨W.size.trans s1, (R.2.1.ext E).wr W q1, List.forall_mem_cons.mpr ⟨⟨q1, ?_, hO⟩, fun x hx => ?_⟩, List.pairwise_cons.mpr ⟨fun y hy => ?_, hp.2⟩⟩
  · show a + (k + 1) < top + 1; omega
  · obtain ⟨p1, p2, p3⟩ := R.2.2.1 x (List.mem_cons_of_mem _ hx)
    have u1 : a + k < x.1 ∨ x.1 + x.2.1 < a := hp.1 x hx
    have u2 : x.1 + x.2.1 < top := p2
    exact ⟨p1, Nat.lt_succ_of_lt u2, (p3.ext E).frame fun b h1 h2 => wr_ne W (by omega)⟩
  · have u1 : a + k < y.1 ∨ y.1 + y.2.1 < a := hp.1 y hy
    have u2 : y.1 + y.2.1 < top := (R.2.2.1 y (List.mem_cons_of_mem _ hy)).2.1
    show a + (k + 1) < y.1 ∨ y.1 + y.2.1 < a
    omega
theorem arr_new {cA : ClassId} {ty : FieldType} {len : Int32} (A : Arr Z h b (newA cA ty len) ty) (hts : ty = .int ∨ ty = .boolean ∨ ty = .long) (hz : (∀ i, ob.2.1 k i = 0) ∧ (∀ i, ob.2.2 k i = 0)) : ArrAt Z h b ty len (el ty ob k) := by
  refine ⟨_, A, sz_new _ _ _, fun i h0 h1 => ?_⟩
  have hi : ¬ (i < 0 ∨ len.toNatClampNeg ≤ i.toNatClampNeg) := by
    have e0 : (0 : Int32).toInt = 0 := rfl
    simp only [Int32.lt_iff_toInt_lt, Int32.toNatClampNeg] at *
    omega
  rw [get_new hi]
  rcases hts with rfl | rfl | rfl
  · show some (Value.int 0) = some (Value.int (ob.2.1 k i)); rw [hz.1]
  · show some (Value.int 0) = some (Value.int (ob.2.1 k i)); rw [hz.1]
  · show some (Value.long 0) = some (Value.long (ob.2.2 k i)); rw [hz.2]
theorem Rep.start (s : State) : Rep s s.heap.size s.heap (s.heap.size, []) := ⟨rfl, Old.start s, fun x hx => (by cases hx), List.Pairwise.nil⟩
end Facts
/- bodies, decode facts, patterns of local variables -/
abbrev Bdy : Type := MethodName × ByteArray × Nat × Option FieldType × Room
def DAt (M : Bdy) (pc : Nat) (i : Instr) (n q : Nat) : Prop := decode M.2.1 pc = .ok (i, n) ∧ q = pc + n
abbrev Pat : Type := List (Option Slot)
abbrev vi (x : Int32) : Option Slot := some (.val (.int x))
abbrev vl (x : Int64) : Option Slot := some (.val (.long x))
abbrev vr (a : Nat) : Option Slot := some (.val (.ref a))
abbrev v2 : Option Slot := some .second
abbrev vn : Option Slot := none
def pget : Pat → Nat → Option Slot
  | [], _ => none
  | x :: _, 0 => x
  | _ :: l, n + 1 => pget l n
theorem pget_eq : ∀ (P : Pat) (i : Nat), pget P i = (P[i]?).join
  | [], _ => by simp [pget]
  | x :: l, 0 => by simp [pget]
  | x :: l, n + 1 => by simp [pget, pget_eq l n]
def pput : Pat → Nat → Option Slot → Pat
  | [], _, _ => []
  | _ :: l, 0, y => y :: l
  | x :: l, n + 1, y => x :: pput l n y
theorem pget_pput : ∀ (P : Pat) (i j : Nat) (y : Option Slot) (s : Slot), pget (pput P i y) j = some s → (j = i ∧ y = some s) ∨ (j ≠ i ∧ pget P j = some s)
  | [], _, _, _, _, h => by simp [pput, pget] at h
  | x :: l, 0, 0, y, s, h => Or.inl ⟨rfl, h⟩
  | x :: l, 0, j + 1, y, s, h => Or.inr ⟨by omega, h⟩
  | x :: l, i + 1, 0, y, s, h => Or.inr ⟨by omega, h⟩
  | x :: l, i + 1, j + 1, y, s, h => by
    rcases pget_pput l i j y s h with ⟨e, r⟩ | ⟨e, r⟩
    · exact Or.inl ⟨by omega, r⟩
    · exact Or.inr ⟨by omega, r⟩
/-- a two-word value whose first word is at i is forgotten -/
def pk1 (P : Pat) (i : Nat) : Pat := match pget P i with
  | some (.val (.long _)) => pput P i none
  | some (.val (.double _)) => pput P i none
  | _ => P
def pk2 (P : Pat) (i : Nat) : Pat := match pget P i with
  | some .second => pput P i none
  | _ => P
def pkp (P : Pat) : Nat → Pat
  | 0 => P
  | i + 1 => pk1 P i
def ps1 (P : Pat) (i : Nat) (v : Value) : Pat := pput (pk2 (pkp P i) (i + 1)) i (some (.val v))
def ps2 (P : Pat) (i : Nat) (v : Value) : Pat := pput (pput (pk2 (pkp P i) (i + 2)) i (some (.val v))) (i + 1) (some .second)
def WFl (L : Array Slot) : Prop := (∀ i : Nat, L[i]? = some .second → ∃ (j : Nat) (v : Value), i = j + 1 ∧ L[j]? = some (.val v) ∧ v.category = 2) ∧ (∀ (i : Nat) (v : Value), L[i]? = some (.val v) → v.category = 2 → L[i + 1]? = some .second)
def Fits (P : Pat) (L : Array Slot) : Prop := (∀ i s, pget P i = some s → L[i]? = some s) ∧ WFl L
theorem pk1_sub {P : Pat} {i j : Nat} {s : Slot} (h : pget (pk1 P i) j = some s) : pget P j = some s ∧ (j = i → ∀ w : Value, s = .val w → w.category = 1) := by
  unfold pk1 at h
  split at h
  · rcases pget_pput _ _ _ _ _ h with ⟨-, e⟩ | ⟨e, r⟩
    · cases e
    · exact ⟨r, fun q => absurd q e⟩
  · rcases pget_pput _ _ _ _ _ h with ⟨-, e⟩ | ⟨e, r⟩
    · cases e
    · exact ⟨r, fun q => absurd q e⟩
  · rename_i h1 h2
    refine ⟨h, fun q w e => ?_⟩
    subst q e
    cases w <;> first | rfl | exact absurd h (h1 _) | exact absurd h (h2 _)
theorem pk2_sub {P : Pat} {i j : Nat} {s : Slot} (h : pget (pk2 P i) j = some s) : pget P j = some s ∧ (j = i → s ≠ .second) := by
  unfold pk2 at h
  split at h
  · rcases pget_pput _ _ _ _ _ h with ⟨-, e⟩ | ⟨e, r⟩
    · cases e
    · exact ⟨r, fun q => absurd q e⟩
  · rename_i h1
    refine ⟨h, fun q e => ?_⟩
    subst q e; exact h1 h
theorem pkp_sub {P : Pat} {i j : Nat} {s : Slot} (h : pget (pkp P i) j = some s) : pget P j = some s ∧ (j + 1 = i → ∀ w : Value, s = .val w → w.category = 1) := by
  cases i with
  | zero => exact ⟨h, fun q => by omega⟩
  | succ i => obtain ⟨h1, h2⟩ := pk1_sub (show pget (pk1 P i) j = some s from h); exact ⟨h1, fun q => h2 (by omega)⟩
theorem setAt_eq {L : Array Slot} {i : Nat} {x : Slot} (hi : i < L.size) : Jvm.setAt L i x = some (L.setIfInBounds i x) := by simp [Jvm.setAt, hi]
theorem sl_second {L : Array Slot} {i : Nat} {v : Value} (ho : L[i]? = some .second) : storeLocals L i v = (Jvm.setAt L (i - 1) .unset).bind fun l => storeSelf l i v := by
  unfold storeLocals; rw [ho]; rfl
theorem sl_unset {L : Array Slot} {i : Nat} {v : Value} (ho : L[i]? = some .unset) : storeLocals L i v = storeSelf L i v := by
  unfold storeLocals; rw [ho]; rfl
theorem sl_val {L : Array Slot} {i : Nat} {v o : Value} (ho : L[i]? = some (.val o)) : storeLocals L i v = if o.category = 2 then (Jvm.setAt L (i + 1) .unset).bind fun l => storeSelf l i v else storeSelf L i v := by
  unfold storeLocals; rw [ho]; rfl
theorem ss_one {L : Array Slot} {i : Nat} {v : Value} (hi : i < L.size) (hv : ¬ v.category = 2) : storeSelf L i v = some (L.setIfInBounds i (.val v)) := by
  unfold storeSelf; rw [setAt_eq hi]; simp [hv]
theorem ss_two {L : Array Slot} {i : Nat} {v : Value} {o : Slot} (hi : i < L.size) (hv : v.category = 2) (ho : L[i + 1]? = some o) : storeSelf L i v = (match o with
    | .val old => if old.category = 2 then (Jvm.setAt (L.setIfInBounds i (.val v)) (i + 2) .unset).bind fun l => Jvm.setAt l (i + 1) .second else Jvm.setAt (L.setIfInBounds i (.val v)) (i + 1) .second
    | _ => Jvm.setAt (L.setIfInBounds i (.val v)) (i + 1) .second) := by
  have e : (L.setIfInBounds i (.val v))[i + 1]? = some o := by rw [Array.getElem?_setIfInBounds_ne (by omega)]; exact ho
  unfold storeSelf; rw [setAt_eq hi]
  show (if v.category = 2 then _ else _) = _
  rw [if_pos hv, e]
  cases o <;> rfl
theorem cat12 (v : Value) : v.category = 1 ∨ v.category = 2 := by cases v <;> first | exact Or.inl rfl | exact Or.inr rfl
/-- a one-word store: what stands elsewhere stays, but for the halves of a two-word value that it breaks -/
theorem store_one {L : Array Slot} {i : Nat} {v : Value} (hW : WFl L) (hi : i < L.size) (hv : v.category = 1) :
    ∃ L', storeLocals L i v = some L' ∧ L'.size = L.size ∧ WFl L' ∧ L'[i]? = some (.val v) ∧ ∀ j, j ≠ i → L'[j]? = L[j]? ∨ (j + 1 = i ∧ L[i]? = some .second) ∨ (j = i + 1 ∧ L[j]? = some .second) := by
  have hv2 : ¬ v.category = 2 := by omega
  cases ho : L[i]? with
  | none => rw [Array.getElem?_eq_none_iff] at ho; omega
  | some o =>
    cases o with
    | unset =>
      refine ⟨L.setIfInBounds i (.val v), ?_, by simp, ?_, by simp [hi], fun j hj => Or.inl (Array.getElem?_setIfInBounds_ne (Ne.symm hj))⟩
      · rw [sl_unset ho, ss_one hi hv2]
      · refine ⟨fun j hj => ?_, fun j w hj hw => ?_⟩
        · by_cases e : j = i
          · subst e; simp [hi] at hj
          · rw [Array.getElem?_setIfInBounds_ne (Ne.symm e)] at hj
            obtain ⟨j', w, e1, e2, e3⟩ := hW.1 j hj
            refine ⟨j', w, e1, ?_, e3⟩
            rw [Array.getElem?_setIfInBounds_ne]; exact e2
            intro q; subst q; rw [ho] at e2; cases e2
        · by_cases e : j = i
          · subst e; simp [hi] at hj; subst hj; omega
          · rw [Array.getElem?_setIfInBounds_ne (Ne.symm e)] at hj
            have := hW.2 j w hj hw
            rw [Array.getElem?_setIfInBounds_ne]; exact this
            intro q; subst q; rw [ho] at this; cases this
    | second =>
      obtain ⟨j0, w0, rfl, f2, f3⟩ := hW.1 i ho
      have hj0 : j0 < L.size := by omega
      refine ⟨(L.setIfInBounds j0 .unset).setIfInBounds (j0 + 1) (.val v), ?_, by simp, ?_, by simp [hi], fun j hj => ?_⟩
      · rw [sl_second ho, show j0 + 1 - 1 = j0 from rfl, setAt_eq hj0]; exact ss_one (by simpa using hi) hv2
      · refine ⟨fun j hj => ?_, fun j w hj hw => ?_⟩
        · by_cases e : j = j0 + 1
          · subst e; simp [hi] at hj
          · rw [Array.getElem?_setIfInBounds_ne (Ne.symm e)] at hj
            by_cases e' : j = j0
            · subst e'; simp [hj0] at hj
            · rw [Array.getElem?_setIfInBounds_ne (Ne.symm e')] at hj
              obtain ⟨j', w, e1, e2, e3⟩ := hW.1 j hj
              refine ⟨j', w, e1, ?_, e3⟩
              rw [Array.getElem?_setIfInBounds_ne, Array.getElem?_setIfInBounds_ne]
              · exact e2
              · intro q; subst q; omega
              · intro q; subst q; rw [ho] at e2; cases e2
        · by_cases e : j = j0 + 1
          · subst e; simp [hi] at hj; subst hj; omega
          · rw [Array.getElem?_setIfInBounds_ne (Ne.symm e)] at hj
            by_cases e' : j = j0
            · subst e'; simp [hj0] at hj
            · rw [Array.getElem?_setIfInBounds_ne (Ne.symm e')] at hj
              have := hW.2 j w hj hw
              rw [Array.getElem?_setIfInBounds_ne, Array.getElem?_setIfInBounds_ne]
              · exact this
              · intro q; subst q; rw [f2] at this; cases this
              · omega
      · by_cases e' : j = j0
        · exact Or.inr (Or.inl ⟨by omega, rfl⟩)
        · left; rw [Array.getElem?_setIfInBounds_ne (Ne.symm hj), Array.getElem?_setIfInBounds_ne (Ne.symm e')]
    | val old =>
      by_cases hc : old.category = 2
      · have f2 := hW.2 i old ho hc
        have hi1 : i + 1 < L.size := (Array.getElem?_eq_some_iff.mp f2).1
        refine ⟨(L.setIfInBounds (i + 1) .unset).setIfInBounds i (.val v), ?_, by simp, ?_, by simp [hi], fun j hj => ?_⟩
        · rw [sl_val ho, if_pos hc, setAt_eq hi1]; exact ss_one (by simpa using hi) hv2
        · refine ⟨fun j hj => ?_, fun j w hj hw => ?_⟩
          · by_cases e : j = i
            · subst e; simp [hi] at hj
            · rw [Array.getElem?_setIfInBounds_ne (Ne.symm e)] at hj
              by_cases e' : j = i + 1
              · subst e'; simp [hi1] at hj
              · rw [Array.getElem?_setIfInBounds_ne (Ne.symm e')] at hj
                obtain ⟨j', w, e1, e2, e3⟩ := hW.1 j hj
                refine ⟨j', w, e1, ?_, e3⟩
                rw [Array.getElem?_setIfInBounds_ne, Array.getElem?_setIfInBounds_ne]
                · exact e2
                · intro q; subst q; rw [f2] at e2; cases e2
                · omega
          · by_cases e : j = i
            · subst e; simp [hi] at hj; subst hj; omega
            · rw [Array.getElem?_setIfInBounds_ne (Ne.symm e)] at hj
              by_cases e' : j = i + 1
              · subst e'; simp [hi1] at hj
              · rw [Array.getElem?_setIfInBounds_ne (Ne.symm e')] at hj
                have := hW.2 j w hj hw
                rw [Array.getElem?_setIfInBounds_ne, Array.getElem?_setIfInBounds_ne]
                · exact this
                · omega
                · intro q; subst q; rw [ho] at this; cases this
        · by_cases e' : j = i + 1
          · subst e'; exact Or.inr (Or.inr ⟨rfl, f2⟩)
          · left; rw [Array.getElem?_setIfInBounds_ne (Ne.symm hj), Array.getElem?_setIfInBounds_ne (Ne.symm e')]
      · refine ⟨L.setIfInBounds i (.val v), ?_, by simp, ?_, by simp [hi], fun j hj => Or.inl (Array.getElem?_setIfInBounds_ne (Ne.symm hj))⟩
        · rw [sl_val ho, if_neg hc, ss_one hi hv2]
        · refine ⟨fun j hj => ?_, fun j w hj hw => ?_⟩
          · by_cases e : j = i
            · subst e; simp [hi] at hj
            · rw [Array.getElem?_setIfInBounds_ne (Ne.symm e)] at hj
              obtain ⟨j', w, e1, e2, e3⟩ := hW.1 j hj
              refine ⟨j', w, e1, ?_, e3⟩
              rw [Array.getElem?_setIfInBounds_ne]; exact e2
              intro q; subst q; rw [ho] at e2; cases e2; omega
          · by_cases e : j = i
            · subst e; simp [hi] at hj; subst hj; omega
            · rw [Array.getElem?_setIfInBounds_ne (Ne.symm e)] at hj
              have := hW.2 j w hj hw
              rw [Array.getElem?_setIfInBounds_ne]; exact this
              intro q; subst q; rw [ho] at this; cases this
theorem Fits.store1 {P : Pat} {L : Array Slot} {i : Nat} {v : Value} (h : Fits P L) (hi : i < L.size) (hv : v.category = 1) :
    ∃ L', storeLocals L i v = some L' ∧ L'.size = L.size ∧ Fits (ps1 P i v) L' := by
  obtain ⟨L', e1, e2, e3, e4, e5⟩ := store_one h.2 hi hv
  refine ⟨L', e1, e2, fun j s hj => ?_, e3⟩
  rcases pget_pput _ _ _ _ _ hj with ⟨rfl, q⟩ | ⟨ne, q⟩
  · rw [e4]; exact q
  · obtain ⟨q1, q2⟩ := pk2_sub q
    obtain ⟨q3, q4⟩ := pkp_sub q1
    have hL := h.1 j s q3
    rcases e5 j ne with r | ⟨r1, r2⟩ | ⟨r1, r2⟩
    · rw [r]; exact hL
    · obtain ⟨j', w, z1, z2, z3⟩ := h.2.1 i r2
      have : j' = j := by omega
      subst this
      rw [hL] at z2; cases z2
      have := q4 r1 w rfl; omega
    · rw [hL] at r2; cases r2
      exact absurd rfl (q2 r1)
theorem st_ph1 {L : Array Slot} {i : Nat} {v : Value} (hW : WFl L) (hi : i + 1 < L.size) :
    ∃ A : Array Slot, storeLocals L i v = storeSelf A i v ∧ A.size = L.size ∧ (∀ j, j ≠ i → j ≠ i + 1 → A[j]? = L[j]? ∨ (j + 1 = i ∧ L[i]? = some .second ∧ A[j]? = some .unset)) ∧ (A[i + 1]? = L[i + 1]? ∨ (A[i + 1]? = some .unset ∧ L[i + 1]? = some .second)) ∧ (L[i]? = some .second → ∀ j, j + 1 = i → A[j]? = some .unset) := by
  have hi0 : i < L.size := by omega
  cases ho : L[i]? with
  | none => rw [Array.getElem?_eq_none_iff] at ho; omega
  | some o =>
    cases o with
    | unset => exact ⟨L, sl_unset ho, rfl, fun j _ _ => Or.inl rfl, Or.inl rfl, fun q => by cases q⟩
    | second =>
      obtain ⟨j0, w0, rfl, f2, f3⟩ := hW.1 i ho
      have hj0 : j0 < L.size := by omega
      refine ⟨L.setIfInBounds j0 .unset, by rw [sl_second ho, show j0 + 1 - 1 = j0 from rfl, setAt_eq hj0]; rfl, by simp, fun j h1 h2 => ?_, Or.inl (Array.getElem?_setIfInBounds_ne (by omega)), fun _ j hj => ?_⟩
      · by_cases e : j = j0
        · subst e; exact Or.inr ⟨rfl, rfl, by simp [hj0]⟩
        · exact Or.inl (Array.getElem?_setIfInBounds_ne (Ne.symm e))
      · have : j = j0 := by omega
        subst this; simp [hj0]
    | val old =>
      by_cases hc : old.category = 2
      · refine ⟨L.setIfInBounds (i + 1) .unset, by rw [sl_val ho, if_pos hc, setAt_eq hi]; rfl, by simp, fun j h1 h2 => Or.inl (Array.getElem?_setIfInBounds_ne (Ne.symm h2)), Or.inr ⟨by simp [hi], hW.2 i old ho hc⟩, fun q => by cases q⟩
      · exact ⟨L, by rw [sl_val ho, if_neg hc], rfl, fun j _ _ => Or.inl rfl, Or.inl rfl, fun q => by cases q⟩
theorem st_ph2 {A : Array Slot} {i : Nat} {v : Value} (hi : i + 1 < A.size) (hv : v.category = 2) (hn : ∀ w : Value, A[i + 1]? = some (.val w) → w.category = 2 → i + 2 < A.size) :
    ∃ L', storeSelf A i v = some L' ∧ L'.size = A.size ∧ L'[i]? = some (.val v) ∧ L'[i + 1]? = some .second ∧ (∀ j, j ≠ i → j ≠ i + 1 → L'[j]? = A[j]? ∨ (j = i + 2 ∧ L'[j]? = some .unset ∧ ∃ w : Value, A[i + 1]? = some (.val w) ∧ w.category = 2)) ∧ ((∃ w : Value, A[i + 1]? = some (.val w) ∧ w.category = 2) → L'[i + 2]? = some .unset) := by
  have hi0 : i < A.size := by omega
  have eB : (A.setIfInBounds i (.val v))[i + 1]? = A[i + 1]? := Array.getElem?_setIfInBounds_ne (by omega)
  have plain : (∀ w : Value, A[i + 1]? = some (.val w) → w.category ≠ 2) → storeSelf A i v = some ((A.setIfInBounds i (.val v)).setIfInBounds (i + 1) .second) := fun hq => by
    cases ho : A[i + 1]? with
    | none => rw [Array.getElem?_eq_none_iff] at ho; omega
    | some o => cases o with
      | unset => rw [ss_two hi0 hv ho]; exact setAt_eq (by simpa using hi)
      | second => rw [ss_two hi0 hv ho]; exact setAt_eq (by simpa using hi)
      | val w => have := hq w ho; rw [ss_two hi0 hv ho]; simp only [if_neg this]; exact setAt_eq (by simpa using hi)
  by_cases hw : ∃ w : Value, A[i + 1]? = some (.val w) ∧ w.category = 2
  · obtain ⟨w, h1, h2⟩ := hw
    have h3 := hn w h1 h2
    refine ⟨((A.setIfInBounds i (.val v)).setIfInBounds (i + 2) .unset).setIfInBounds (i + 1) .second, by rw [ss_two hi0 hv h1]; simp only [if_pos h2]; rw [setAt_eq (by simpa using h3)]; exact setAt_eq (by simpa using hi), by simp, ?_, by simp [hi], fun j a b => ?_, fun _ => ?_⟩
    · rw [Array.getElem?_setIfInBounds_ne (by omega), Array.getElem?_setIfInBounds_ne (by omega)]; simp [hi0]
    · rw [Array.getElem?_setIfInBounds_ne (by omega)]
      by_cases e : j = i + 2
      · subst e; exact Or.inr ⟨rfl, by simp [h3], w, h1, h2⟩
      · left; rw [Array.getElem?_setIfInBounds_ne (by omega), Array.getElem?_setIfInBounds_ne (by omega)]
    · rw [Array.getElem?_setIfInBounds_ne (by omega)]; simp [h3]
  · refine ⟨_, plain fun w h1 h2 => hw ⟨w, h1, h2⟩, by simp, ?_, by simp [hi], fun j a b => Or.inl ?_, fun q => absurd q hw⟩
    · rw [Array.getElem?_setIfInBounds_ne (by omega)]; simp [hi0]
    · rw [Array.getElem?_setIfInBounds_ne (by omega), Array.getElem?_setIfInBounds_ne (by omega)]
theorem store_two {L : Array Slot} {i : Nat} {v : Value} (hW : WFl L) (hi : i + 1 < L.size) (hv : v.category = 2) :
    ∃ L', storeLocals L i v = some L' ∧ L'.size = L.size ∧ WFl L' ∧ L'[i]? = some (.val v) ∧ L'[i + 1]? = some .second ∧ ∀ j, j ≠ i → j ≠ i + 1 → L'[j]? = L[j]? ∨ (j + 1 = i ∧ L[i]? = some .second) ∨ (j = i + 2 ∧ L[j]? = some .second) := by
  obtain ⟨A, a1, a2, a3, a4, a5⟩ := st_ph1 (v := v) hW hi
  have a6 : ∀ w : Value, A[i + 1]? = some (.val w) → w.category = 2 → L[i + 2]? = some .second := fun w h1 h2 => by
    rcases a4 with e | ⟨e, -⟩
    · rw [e] at h1; exact hW.2 _ _ h1 h2
    · rw [e] at h1; cases h1
  obtain ⟨L', b1, b2, b3, b4, b5, b6⟩ := st_ph2 (A := A) (i := i) (v := v) (by omega) hv (fun w h1 h2 => by have := (Array.getElem?_eq_some_iff.mp (a6 w h1 h2)).1; omega)
  have c : ∀ j, j ≠ i → j ≠ i + 1 → L'[j]? = L[j]? ∨ (j + 1 = i ∧ L[i]? = some .second ∧ L'[j]? = some .unset) ∨ (j = i + 2 ∧ L[j]? = some .second ∧ L'[j]? = some .unset) := fun j h1 h2 => by
    rcases b5 j h1 h2 with e | ⟨e1, e2, w, e3, e4⟩
    · rcases a3 j h1 h2 with r | ⟨r1, r2, r3⟩
      · exact Or.inl (e.trans r)
      · exact Or.inr (Or.inl ⟨r1, r2, e.trans r3⟩)
    · subst e1; exact Or.inr (Or.inr ⟨rfl, a6 w e3 e4, e2⟩)
  have cs : L[i]? = some .second → ∀ j, j + 1 = i → L'[j]? = some .unset := fun q j hj => by
    rcases b5 j (by omega) (by omega) with e | ⟨e1, -⟩
    · exact e.trans (a5 q j hj)
    · omega
  have c2 : L[i + 2]? = some .second → L'[i + 2]? = some .unset := fun q => by
    obtain ⟨j', w, z1, z2, z3⟩ := hW.1 _ q
    have : j' = i + 1 := by omega
    subst this
    rcases a4 with e | ⟨-, e⟩
    · exact b6 ⟨w, e.trans z2, z3⟩
    · rw [e] at z2; cases z2
  refine ⟨L', a1.trans b1, b2.trans a2, ⟨fun j hj => ?_, fun j w hj hw => ?_⟩, b3, b4, fun j h1 h2 => ?_⟩
  · by_cases e0 : j = i
    · subst e0; rw [b3] at hj; cases hj
    by_cases e1 : j = i + 1
    · exact ⟨i, v, e1, b3, hv⟩
    rcases c j e0 e1 with r | ⟨-, -, r⟩ | ⟨-, -, r⟩
    · rw [r] at hj
      obtain ⟨j', w, z1, z2, z3⟩ := hW.1 j hj
      refine ⟨j', w, z1, ?_, z3⟩
      have n0 : j' ≠ i := by omega
      by_cases n1 : j' = i + 1
      · have : j = i + 2 := by omega
        subst this
        rw [c2 hj] at r; rw [hj] at r; cases r
      rcases c j' n0 n1 with u | ⟨u, -, -⟩ | ⟨-, u, -⟩
      · exact u.trans z2
      · omega
      · rw [z2] at u; cases u
    · rw [r] at hj; cases hj
    · rw [r] at hj; cases hj
  · by_cases e0 : j = i
    · subst e0; exact b4
    by_cases e1 : j = i + 1
    · subst e1; rw [b4] at hj; cases hj
    rcases c j e0 e1 with r | ⟨-, -, r⟩ | ⟨-, -, r⟩
    · have hj' := hj
      rw [r] at hj
      have z := hW.2 j w hj hw
      by_cases n0 : j + 1 = i
      · subst n0; rw [cs z j rfl] at hj'; cases hj'
      by_cases n1 : j + 1 = i + 1
      · omega
      rcases c (j + 1) n0 n1 with u | ⟨u1, u2, -⟩ | ⟨u, -, -⟩
      · exact u.trans z
      · obtain ⟨j', w', y1, y2, y3⟩ := hW.1 i u2
        have : j' = j + 1 := by omega
        subst this; rw [z] at y2; cases y2
      · omega
    · rw [r] at hj; cases hj
    · rw [r] at hj; cases hj
  · rcases c j h1 h2 with r | ⟨r1, r2, -⟩ | ⟨r1, r2, -⟩
    · exact Or.inl r
    · exact Or.inr (Or.inl ⟨r1, r2⟩)
    · exact Or.inr (Or.inr ⟨r1, r2⟩)
theorem Fits.store2 {P : Pat} {L : Array Slot} {i : Nat} {v : Value} (h : Fits P L) (hi : i + 1 < L.size) (hv : v.category = 2) :
    ∃ L', storeLocals L i v = some L' ∧ L'.size = L.size ∧ Fits (ps2 P i v) L' := by
  obtain ⟨L', e1, e2, e3, e4, e4', e5⟩ := store_two h.2 hi hv
  refine ⟨L', e1, e2, fun j s hj => ?_, e3⟩
  rcases pget_pput _ _ _ _ _ hj with ⟨rfl, q⟩ | ⟨ne, q⟩
  · rw [e4']; exact q
  rcases pget_pput _ _ _ _ _ q with ⟨rfl, q'⟩ | ⟨ne', q'⟩
  · rw [e4]; exact q'
  obtain ⟨q1, q2⟩ := pk2_sub q'
  obtain ⟨q3, q4⟩ := pkp_sub q1
  have hL := h.1 j s q3
  rcases e5 j ne' ne with r | ⟨r1, r2⟩ | ⟨r1, r2⟩
  · rw [r]; exact hL
  · obtain ⟨j', w, z1, z2, z3⟩ := h.2.1 i r2
    have : j' = j := by omega
    subst this
    rw [hL] at z2; cases z2
    have := q4 r1 w rfl; omega
  · rw [hL] at r2; cases r2
    exact absurd rfl (q2 r1)
/- what a body does from a place on -/
def Runs (C : Ctx) (M : Bdy) (k n pc : Nat) (P : Pat) (S : List Value) (G : AH) (Q : Option Value → AH → Prop) : Prop :=
  Ok C → ∀ (p : Program) (e : Env) (s : State) (m : MethodId) (args : Array Value) (below : List Frame) (meth : Method) (c : Code) (T : State) (locs : List Loc) (L : Array Slot),
    p.tables.exec = Jvm.exec → c.code = M.2.1 → c.maxLocals = M.2.2.1 → meth.sig.returnType = M.2.2.2.1 → meth.name = M.1.name → s.vm.findClass M.1.cls = some m.cls → C.2.1.Warmed39 s.vm →
    Fits P L → L.size = M.2.2.1 → Stand p C.1 e M.2.2.2.2 s m args below meth c T locs k n → Rep C.2.1 C.2.2.1 T.heap G → Fr C.2.2.1 locs →
    ∃ (T' : State) (locs' : List Loc) (k' n' : Nat) (r : Option Value) (G' : AH), Stand p C.1 e M.2.2.2.2 s m args below meth c T' locs' k' n' ∧ k' ≤ M.2.2.2.2.cells ∧ n' ≤ M.2.2.2.2.slots ∧ Rep C.2.1 C.2.2.1 T'.heap G' ∧ Fr C.2.2.1 locs' ∧ Q r G' ∧
      (M.2.2.2.1 = none → r = none) ∧
      ∀ fs : List Frame, (∀ (f : JFrame) (acts : List Action), f.method = m → f.locked = none → f.entered = [] → (doReturn e (T'.setTop f) acts r).1 = T'.setFrames fs) → Steps p.tables e below (T.setTop (mkF m pc L S)) (T'.setFrames fs)
section Rules
variable {C : Ctx} {M : Bdy} {k n pc q : Nat} {P P' : Pat} {S S' : List Value} {G : AH} {Q : Option Value → AH → Prop}
/-- a step that leaves the heap alone -/
theorem Runs.pure {i : Instr} {len : Nat} (d : DAt M pc i len q) {pc' : Nat}
    (st : ∀ (p : Program) (e : Env) (s : State) (m : MethodId) (args : Array Value) (below : List Frame) (meth : Method) (c : Code) (T : State) (locs : List Loc) (L : Array Slot), Ok C → p.tables.exec = Jvm.exec → s.vm.findClass M.1.cls = some m.cls → C.2.1.Warmed39 s.vm → decode c.code pc = .ok (i, len) → Fits P L → L.size = M.2.2.1 → Rep C.2.1 C.2.2.1 T.heap G →
      Stand p C.1 e M.2.2.2.2 s m args below meth c T locs k n → ∃ L', Fits P' L' ∧ L'.size = M.2.2.1 ∧ ∀ t, Steps p.tables e below (T.setTop (mkF m pc' L' S')) t → Steps p.tables e below (T.setTop (mkF m pc L S)) t)
    (h : Runs C M k n pc' P' S' G Q) : Runs C M k n pc P S G Q := by
  intro hw p e s m args below meth c T locs L hx hby hml hret hnm hown hZ hP hsz X hR hF
  obtain ⟨L', f1, f2, f3⟩ := st p e s m args below meth c T locs L hw hx hown hZ (hb hby d.1) hP hsz hR X
  obtain ⟨T', locs', k', n', r, G', g1, g2, g3, g4, g5, g6, g7, g8⟩ := h hw p e s m args below meth c T locs L' hx hby hml hret hnm hown hZ f1 f2 X hR hF
  exact ⟨T', locs', k', n', r, G', g1, g2, g3, g4, g5, g6, g7, fun fs hr => f3 _ (g8 fs hr)⟩
/-- a step that keeps the locals and what the heap says -/
theorem Runs.stk {i : Instr} {len : Nat} (d : DAt M pc i len q)
    (st : ∀ (p : Program) (e : Env) (s : State) (m : MethodId) (args : Array Value) (below : List Frame) (meth : Method) (c : Code) (T : State) (locs : List Loc) (L : Array Slot), p.tables.exec = Jvm.exec → decode c.code pc = .ok (i, len) → Fits P L →
      Stand p C.1 e M.2.2.2.2 s m args below meth c T locs k n → ∀ t, Steps p.tables e below (T.setTop (mkF m (pc + len) L S')) t → Steps p.tables e below (T.setTop (mkF m pc L S)) t)
    (h : Runs C M k n q P S' G Q) : Runs C M k n pc P S G Q := by
  have hq := d.2
  subst hq
  exact Runs.pure d (fun p e s m args below meth c T locs L _ hx _ _ hd hP hsz _ X => ⟨L, hP, hsz, st p e s m args below meth c T locs L hx hd hP X⟩) h
theorem Runs.iloadN {j : Fin 4} {v : Int32} (d : DAt M pc (.iload_n j) 1 q) (hl : pget P j.val = vi v) (h : Runs C M k n q P (.int v :: S) G Q) : Runs C M k n pc P S G Q :=
  Runs.stk d (fun p e s m args below meth c T locs L hx hd hP X t r => XS.iloadN (g := mkF m pc L S) X.here hx rfl hd (hP.1 _ _ hl) r) h
theorem Runs.iload {j : Nat} {v : Int32} (d : DAt M pc (.iload j) 2 q) (hl : pget P j = vi v) (h : Runs C M k n q P (.int v :: S) G Q) : Runs C M k n pc P S G Q :=
  Runs.stk d (fun p e s m args below meth c T locs L hx hd hP X t r => XS.iload (g := mkF m pc L S) X.here hx rfl hd (hP.1 _ _ hl) r) h
theorem Runs.lloadN {j : Fin 4} {v : Int64} (d : DAt M pc (.lload_n j) 1 q) (hl : pget P j.val = vl v) (h : Runs C M k n q P (.long v :: S) G Q) : Runs C M k n pc P S G Q :=
  Runs.stk d (fun p e s m args below meth c T locs L hx hd hP X t r => XS.lloadN (g := mkF m pc L S) X.here hx rfl hd (hP.1 _ _ hl) r) h
theorem Runs.lload {j : Nat} {v : Int64} (d : DAt M pc (.lload j) 2 q) (hl : pget P j = vl v) (h : Runs C M k n q P (.long v :: S) G Q) : Runs C M k n pc P S G Q :=
  Runs.stk d (fun p e s m args below meth c T locs L hx hd hP X t r => XS.lload (g := mkF m pc L S) X.here hx rfl hd (hP.1 _ _ hl) r) h
theorem Runs.aloadN {j : Fin 4} {v : Nat} (d : DAt M pc (.aload_n j) 1 q) (hl : pget P j.val = vr v) (h : Runs C M k n q P (.ref v :: S) G Q) : Runs C M k n pc P S G Q :=
  Runs.stk d (fun p e s m args below meth c T locs L hx hd hP X t r => XS.aloadN (g := mkF m pc L S) X.here hx rfl hd (hP.1 _ _ hl) rfl r) h
theorem Runs.aload {j : Nat} {v : Nat} (d : DAt M pc (.aload j) 2 q) (hl : pget P j = vr v) (h : Runs C M k n q P (.ref v :: S) G Q) : Runs C M k n pc P S G Q :=
  Runs.stk d (fun p e s m args below meth c T locs L hx hd hP X t r => XS.aload (g := mkF m pc L S) X.here hx rfl hd (hP.1 _ _ hl) rfl r) h
theorem Runs.iconst {i : Int} {v : Int32} (d : DAt M pc (.iconst i) 1 q) (hv : Int32.ofInt i = v) (h : Runs C M k n q P (.int v :: S) G Q) : Runs C M k n pc P S G Q :=
  Runs.stk d (fun p e s m args below meth c T locs L hx hd hP X t r => XS.iconst (g := mkF m pc L S) X.here hx rfl hd (by rw [hv]; exact r)) h
theorem Runs.bipush {i : Int} {v : Int32} (d : DAt M pc (.bipush i) 2 q) (hv : (Int8.ofInt i).toInt32 = v) (h : Runs C M k n q P (.int v :: S) G Q) : Runs C M k n pc P S G Q :=
  Runs.stk d (fun p e s m args below meth c T locs L hx hd hP X t r => XS.bipush (g := mkF m pc L S) X.here hx rfl hd (by rw [hv]; exact r)) h
theorem Runs.sipush {i : Int} {v : Int32} (d : DAt M pc (.sipush i) 3 q) (hv : (Int16.ofInt i).toInt32 = v) (h : Runs C M k n q P (.int v :: S) G Q) : Runs C M k n pc P S G Q :=
  Runs.stk d (fun p e s m args below meth c T locs L hx hd hP X t r => XS.sipush (g := mkF m pc L S) X.here hx rfl hd (by rw [hv]; exact r)) h
theorem Runs.lconst {i : Fin 2} {v : Int64} (d : DAt M pc (.lconst i) 1 q) (hv : Int64.ofNat i = v) (h : Runs C M k n q P (.long v :: S) G Q) : Runs C M k n pc P S G Q :=
  Runs.stk d (fun p e s m args below meth c T locs L hx hd hP X t r => Jvm.Free.XT.lconstV (g := mkF m pc L S) X.here hx rfl v hd hv r) h
theorem Runs.ldc {i : Nat} {v : Int32} (d : DAt M pc (.ldc i) 2 q) (w : Jvm.Cond.constant M.1.cls i v ∈ tables_1) (h : Runs C M k n q P (.int v :: S) G Q) : Runs C M k n pc P S G Q := by
  have hq := d.2
  subst hq
  exact Runs.pure d (fun p e s m args below meth c T locs L hw hx hown hZ hd hP hsz _ X => ⟨L, hP, hsz, fun t r => X.ldcInt hx hown (mvT hZ (hw _ w)) (g := mkF m pc L S) rfl hd t r⟩) h
theorem Runs.ldc2 {i : Nat} {v : Int64} (d : DAt M pc (.ldc2_w i) 3 q) (w : Jvm.Cond.constantLong M.1.cls i v ∈ tables_1) (h : Runs C M k n q P (.long v :: S) G Q) : Runs C M k n pc P S G Q := by
  have hq := d.2
  subst hq
  exact Runs.pure d (fun p e s m args below meth c T locs L hw hx hown hZ hd hP hsz _ X => ⟨L, hP, hsz, fun t r => X.ldc2Long hx hown (mvT hZ (hw _ w)) (g := mkF m pc L S) rfl hd t r⟩) h
theorem Runs.iadd {x y : Int32} (d : DAt M pc .iadd 1 q) (h : Runs C M k n q P (.int (x + y) :: S) G Q) : Runs C M k n pc P (.int y :: .int x :: S) G Q :=
  Runs.stk d (fun p e s m args below meth c T locs L hx hd hP X t r => XS.iadd (g := mkF m pc L (.int y :: .int x :: S)) X.here hx rfl hd rfl r) h
theorem Runs.isub {x y : Int32} (d : DAt M pc .isub 1 q) (h : Runs C M k n q P (.int (x - y) :: S) G Q) : Runs C M k n pc P (.int y :: .int x :: S) G Q :=
  Runs.stk d (fun p e s m args below meth c T locs L hx hd hP X t r => XS.isub (g := mkF m pc L (.int y :: .int x :: S)) X.here hx rfl hd rfl r) h
theorem Runs.imul {x y : Int32} (d : DAt M pc .imul 1 q) (h : Runs C M k n q P (.int (x * y) :: S) G Q) : Runs C M k n pc P (.int y :: .int x :: S) G Q :=
  Runs.stk d (fun p e s m args below meth c T locs L hx hd hP X t r => XS.imul (g := mkF m pc L (.int y :: .int x :: S)) X.here hx rfl hd rfl r) h
theorem Runs.iand {x y : Int32} (d : DAt M pc .iand 1 q) (h : Runs C M k n q P (.int (x &&& y) :: S) G Q) : Runs C M k n pc P (.int y :: .int x :: S) G Q :=
  Runs.stk d (fun p e s m args below meth c T locs L hx hd hP X t r => XS.iand (g := mkF m pc L (.int y :: .int x :: S)) X.here hx rfl hd rfl r) h
theorem Runs.ior {x y : Int32} (d : DAt M pc .ior 1 q) (h : Runs C M k n q P (.int (x ||| y) :: S) G Q) : Runs C M k n pc P (.int y :: .int x :: S) G Q :=
  Runs.stk d (fun p e s m args below meth c T locs L hx hd hP X t r => XS.ior (g := mkF m pc L (.int y :: .int x :: S)) X.here hx rfl hd rfl r) h
theorem Runs.ixor {x y : Int32} (d : DAt M pc .ixor 1 q) (h : Runs C M k n q P (.int (x ^^^ y) :: S) G Q) : Runs C M k n pc P (.int y :: .int x :: S) G Q :=
  Runs.stk d (fun p e s m args below meth c T locs L hx hd hP X t r => XS.ixor (g := mkF m pc L (.int y :: .int x :: S)) X.here hx rfl hd rfl r) h
theorem Runs.ladd {x y : Int64} (d : DAt M pc .ladd 1 q) (h : Runs C M k n q P (.long (x + y) :: S) G Q) : Runs C M k n pc P (.long y :: .long x :: S) G Q :=
  Runs.stk d (fun p e s m args below meth c T locs L hx hd hP X t r => XS.ladd (g := mkF m pc L (.long y :: .long x :: S)) X.here hx rfl hd rfl r) h
theorem Runs.lsub {x y : Int64} (d : DAt M pc .lsub 1 q) (h : Runs C M k n q P (.long (x - y) :: S) G Q) : Runs C M k n pc P (.long y :: .long x :: S) G Q :=
  Runs.stk d (fun p e s m args below meth c T locs L hx hd hP X t r => XS.lsub (g := mkF m pc L (.long y :: .long x :: S)) X.here hx rfl hd rfl r) h
theorem Runs.lmul {x y : Int64} (d : DAt M pc .lmul 1 q) (h : Runs C M k n q P (.long (x * y) :: S) G Q) : Runs C M k n pc P (.long y :: .long x :: S) G Q :=
  Runs.stk d (fun p e s m args below meth c T locs L hx hd hP X t r => XS.lmul (g := mkF m pc L (.long y :: .long x :: S)) X.here hx rfl hd rfl r) h
theorem Runs.land {x y : Int64} (d : DAt M pc .land 1 q) (h : Runs C M k n q P (.long (x &&& y) :: S) G Q) : Runs C M k n pc P (.long y :: .long x :: S) G Q :=
  Runs.stk d (fun p e s m args below meth c T locs L hx hd hP X t r => XS.land (g := mkF m pc L (.long y :: .long x :: S)) X.here hx rfl hd rfl r) h
theorem Runs.lor {x y : Int64} (d : DAt M pc .lor 1 q) (h : Runs C M k n q P (.long (x ||| y) :: S) G Q) : Runs C M k n pc P (.long y :: .long x :: S) G Q :=
  Runs.stk d (fun p e s m args below meth c T locs L hx hd hP X t r => XS.lor (g := mkF m pc L (.long y :: .long x :: S)) X.here hx rfl hd rfl r) h
theorem Runs.lxor {x y : Int64} (d : DAt M pc .lxor 1 q) (h : Runs C M k n q P (.long (x ^^^ y) :: S) G Q) : Runs C M k n pc P (.long y :: .long x :: S) G Q :=
  Runs.stk d (fun p e s m args below meth c T locs L hx hd hP X t r => XS.lxor (g := mkF m pc L (.long y :: .long x :: S)) X.here hx rfl hd rfl r) h
theorem Runs.ishl {x : Int32} {y : Int32} (d : DAt M pc .ishl 1 q) (h : Runs C M k n q P (.int (x <<< (y &&& 31)) :: S) G Q) : Runs C M k n pc P (.int y :: .int x :: S) G Q :=
  Runs.stk d (fun p e s m args below meth c T locs L hx hd hP X t r => XS.ishl (g := mkF m pc L (.int y :: .int x :: S)) X.here hx rfl hd rfl r) h
theorem Runs.ishr {x : Int32} {y : Int32} (d : DAt M pc .ishr 1 q) (h : Runs C M k n q P (.int (x >>> (y &&& 31)) :: S) G Q) : Runs C M k n pc P (.int y :: .int x :: S) G Q :=
  Runs.stk d (fun p e s m args below meth c T locs L hx hd hP X t r => XS.ishr (g := mkF m pc L (.int y :: .int x :: S)) X.here hx rfl hd rfl r) h
theorem Runs.iushr {x : Int32} {y : Int32} (d : DAt M pc .iushr 1 q) (h : Runs C M k n q P (.int ((x.toUInt32 >>> (y &&& 31).toUInt32).toInt32) :: S) G Q) : Runs C M k n pc P (.int y :: .int x :: S) G Q :=
  Runs.stk d (fun p e s m args below meth c T locs L hx hd hP X t r => XS.iushr (g := mkF m pc L (.int y :: .int x :: S)) X.here hx rfl hd rfl r) h
theorem Runs.lshl {x : Int64} {y : Int32} (d : DAt M pc .lshl 1 q) (h : Runs C M k n q P (.long (x <<< (y &&& 0x3f).toInt64) :: S) G Q) : Runs C M k n pc P (.int y :: .long x :: S) G Q :=
  Runs.stk d (fun p e s m args below meth c T locs L hx hd hP X t r => XS.lshl (g := mkF m pc L (.int y :: .long x :: S)) X.here hx rfl hd rfl r) h
theorem Runs.lshr {x : Int64} {y : Int32} (d : DAt M pc .lshr 1 q) (h : Runs C M k n q P (.long (x >>> (y &&& 0x3f).toInt64) :: S) G Q) : Runs C M k n pc P (.int y :: .long x :: S) G Q :=
  Runs.stk d (fun p e s m args below meth c T locs L hx hd hP X t r => XS.lshr (g := mkF m pc L (.int y :: .long x :: S)) X.here hx rfl hd rfl r) h
theorem Runs.lushr {x : Int64} {y : Int32} (d : DAt M pc .lushr 1 q) (h : Runs C M k n q P (.long ((x.toUInt64 >>> (y &&& 0x3f).toInt64.toUInt64).toInt64) :: S) G Q) : Runs C M k n pc P (.int y :: .long x :: S) G Q :=
  Runs.stk d (fun p e s m args below meth c T locs L hx hd hP X t r => XS.lushr (g := mkF m pc L (.int y :: .long x :: S)) X.here hx rfl hd rfl r) h
theorem Runs.ineg {x : Int32} (d : DAt M pc .ineg 1 q) (h : Runs C M k n q P (.int (-x) :: S) G Q) : Runs C M k n pc P (.int x :: S) G Q :=
  Runs.stk d (fun p e s m args below meth c T locs L hx hd hP X t r => XS.ineg (g := mkF m pc L (.int x :: S)) X.here hx rfl hd rfl r) h
theorem Runs.lneg {x : Int64} (d : DAt M pc .lneg 1 q) (h : Runs C M k n q P (.long (-x) :: S) G Q) : Runs C M k n pc P (.long x :: S) G Q :=
  Runs.stk d (fun p e s m args below meth c T locs L hx hd hP X t r => XS.lneg (g := mkF m pc L (.long x :: S)) X.here hx rfl hd rfl r) h
theorem Runs.i2l {x : Int32} (d : DAt M pc .i2l 1 q) (h : Runs C M k n q P (.long x.toInt64 :: S) G Q) : Runs C M k n pc P (.int x :: S) G Q :=
  Runs.stk d (fun p e s m args below meth c T locs L hx hd hP X t r => XS.i2l (g := mkF m pc L (.int x :: S)) X.here hx rfl hd rfl r) h
theorem Runs.l2i {x : Int64} (d : DAt M pc .l2i 1 q) (h : Runs C M k n q P (.int x.toInt32 :: S) G Q) : Runs C M k n pc P (.long x :: S) G Q :=
  Runs.stk d (fun p e s m args below meth c T locs L hx hd hP X t r => XS.l2i (g := mkF m pc L (.long x :: S)) X.here hx rfl hd rfl r) h
theorem Runs.lcmp {x y : Int64} (d : DAt M pc .lcmp 1 q) (h : Runs C M k n q P (.int (lcmpW x y) :: S) G Q) : Runs C M k n pc P (.long y :: .long x :: S) G Q :=
  Runs.stk d (fun p e s m args below meth c T locs L hx hd hP X t r => XS.lcmp (g := mkF m pc L (.long y :: .long x :: S)) X.here hx rfl hd rfl r) h
theorem Runs.idiv {x y : Int32} (d : DAt M pc .idiv 1 q) (hy : y ≠ 0) (h : Runs C M k n q P (.int (x / y) :: S) G Q) : Runs C M k n pc P (.int y :: .int x :: S) G Q :=
  Runs.stk d (fun p e s m args below meth c T locs L hx hd hP X t r => XS.idiv (g := mkF m pc L (.int y :: .int x :: S)) X.here hx rfl hd rfl hy r) h
theorem Runs.irem {x y : Int32} (d : DAt M pc .irem 1 q) (hy : y ≠ 0) (h : Runs C M k n q P (.int (x % y) :: S) G Q) : Runs C M k n pc P (.int y :: .int x :: S) G Q :=
  Runs.stk d (fun p e s m args below meth c T locs L hx hd hP X t r => iremM (g := mkF m pc L (.int y :: .int x :: S)) X hx rfl hd rfl hy r) h
theorem Runs.dup {x : Value} (d : DAt M pc .dup 1 q) (hc : x.category = 1) (h : Runs C M k n q P (x :: x :: S) G Q) : Runs C M k n pc P (x :: S) G Q :=
  Runs.stk d (fun p e s m args below meth c T locs L hx hd hP X t r => XS.dup (g := mkF m pc L (x :: S)) X.here hx rfl hd rfl hc r) h
theorem Runs.dup2 {x y : Value} (d : DAt M pc .dup2 1 q) (hc : x.category = 1) (hc' : y.category = 1) (h : Runs C M k n q P (x :: y :: x :: y :: S) G Q) : Runs C M k n pc P (x :: y :: S) G Q :=
  Runs.stk d (fun p e s m args below meth c T locs L hx hd hP X t r => Jvm.Free.XT.dup2 (g := mkF m pc L (x :: y :: S)) X.here hx rfl hd rfl hc hc' r) h
theorem Runs.pop {x : Value} (d : DAt M pc .pop 1 q) (hc : x.category = 1) (h : Runs C M k n q P S G Q) : Runs C M k n pc P (x :: S) G Q :=
  Runs.stk d (fun p e s m args below meth c T locs L hx hd hP X t r => XS.pop (g := mkF m pc L (x :: S)) X.here hx rfl hd rfl hc r) h
theorem Runs.goto {o : Int} {pc' : Nat} (d : DAt M pc (.goto o) 3 q) (ho : 0 ≤ (pc : Int) + o ∧ ((pc : Int) + o).toNat = pc') (h : Runs C M k n pc' P S G Q) : Runs C M k n pc P S G Q :=
  Runs.pure d (fun p e s m args below meth c T locs L hw hx hown hZ hd hP hsz _ X => ⟨L, hP, hsz, fun t r => XS.goto (g := mkF m pc L S) X.here hx rfl (pc0 := pc) rfl hd ho.1 ho.2 r⟩) h
theorem Runs.ifY {cd : ClassFile.Cond} {x : Int32} {o : Int} {pc' : Nat} (d : DAt M pc (.ifCond cd o) 3 q) (hc : if_icmp.holds cd x 0 = true) (ho : 0 ≤ (pc : Int) + o ∧ ((pc : Int) + o).toNat = pc') (h : Runs C M k n pc' P S G Q) : Runs C M k n pc P (.int x :: S) G Q :=
  Runs.pure d (fun p e s m args below meth c T locs L hw hx hown hZ hd hP hsz _ X => ⟨L, hP, hsz, fun t r => XS.ifYes (g := mkF m pc L (.int x :: S)) X.here hx rfl (pc0 := pc) rfl hd rfl ((if0 _ _).trans hc) ho.1 ho.2 r⟩) h
theorem Runs.ifN {cd : ClassFile.Cond} {x : Int32} {o : Int} (d : DAt M pc (.ifCond cd o) 3 q) (hc : if_icmp.holds cd x 0 = false) (h : Runs C M k n q P S G Q) : Runs C M k n pc P (.int x :: S) G Q :=
  Runs.stk d (fun p e s m args below meth c T locs L hx hd hP X t r => XS.ifNo (g := mkF m pc L (.int x :: S)) X.here hx rfl hd rfl ((if0 _ _).trans hc) r) h
theorem Runs.icY {cd : ClassFile.Cond} {x y : Int32} {o : Int} {pc' : Nat} (d : DAt M pc (.if_icmp cd o) 3 q) (hc : if_icmp.holds cd x y = true) (ho : 0 ≤ (pc : Int) + o ∧ ((pc : Int) + o).toNat = pc') (h : Runs C M k n pc' P S G Q) : Runs C M k n pc P (.int y :: .int x :: S) G Q :=
  Runs.pure d (fun p e s m args below meth c T locs L hw hx hown hZ hd hP hsz _ X => ⟨L, hP, hsz, fun t r => XS.icmpYes (g := mkF m pc L (.int y :: .int x :: S)) X.here hx rfl (pc0 := pc) rfl hd rfl hc ho.1 ho.2 r⟩) h
theorem Runs.icN {cd : ClassFile.Cond} {x y : Int32} {o : Int} (d : DAt M pc (.if_icmp cd o) 3 q) (hc : if_icmp.holds cd x y = false) (h : Runs C M k n q P S G Q) : Runs C M k n pc P (.int y :: .int x :: S) G Q :=
  Runs.stk d (fun p e s m args below meth c T locs L hx hd hP X t r => XS.icmpNo (g := mkF m pc L (.int y :: .int x :: S)) X.here hx rfl hd rfl hc r) h
theorem Runs.tswI {dflt low high : Int} {offs : Array Int} {len : Nat} {o : Int} {pc' : Nat} {i : Int32} (d : DAt M pc (.tableswitch dflt low high offs) len q) (hin : ¬ (i.toInt < low ∨ i.toInt > high)) (hoff : offs[(i.toInt - low).toNat]? = some o) (ho : 0 ≤ (pc : Int) + o ∧ ((pc : Int) + o).toNat = pc') (h : Runs C M k n pc' P S G Q) : Runs C M k n pc P (.int i :: S) G Q :=
  Runs.pure d (fun p e s m args below meth c T locs L hw hx hown hZ hd hP hsz _ X => ⟨L, hP, hsz, fun t r => XS.tswIn (g := mkF m pc L (.int i :: S)) X.here hx rfl (pc0 := pc) rfl hd rfl hin hoff ho.1 ho.2 r⟩) h
theorem Runs.tswO {dflt low high : Int} {offs : Array Int} {len : Nat} {pc' : Nat} {i : Int32} (d : DAt M pc (.tableswitch dflt low high offs) len q) (hout : i.toInt < low ∨ i.toInt > high) (ho : 0 ≤ (pc : Int) + dflt ∧ ((pc : Int) + dflt).toNat = pc') (h : Runs C M k n pc' P S G Q) : Runs C M k n pc P (.int i :: S) G Q :=
  Runs.pure d (fun p e s m args below meth c T locs L hw hx hown hZ hd hP hsz _ X => ⟨L, hP, hsz, fun t r => XS.tswOut (g := mkF m pc L (.int i :: S)) X.here hx rfl (pc0 := pc) rfl hd rfl hout ho.1 ho.2 r⟩) h
theorem Runs.istoreN {j : Fin 4} {x : Int32} (d : DAt M pc (.istore_n j) 1 q) (hi : j.val < M.2.2.1) (hP' : ps1 P j.val (.int x) = P') (h : Runs C M k n q P' S G Q) : Runs C M k n pc P (.int x :: S) G Q := by
  have hq := d.2
  subst hq hP'
  refine Runs.pure d (fun p e s m args below meth c T locs L hw hx hown hZ hd hP hsz _ X => ?_) h
  obtain ⟨L', e1, e2, e3⟩ := hP.store1 (i := j.val) (v := .int x) (by omega) rfl
  exact ⟨L', e3, e2.trans hsz, fun t r => XS.istoreN (g := mkF m pc L (.int x :: S)) X.here hx rfl hd rfl e1 r⟩
theorem Runs.istore {j : Nat} {x : Int32} (d : DAt M pc (.istore j) 2 q) (hi : j < M.2.2.1) (hP' : ps1 P j (.int x) = P') (h : Runs C M k n q P' S G Q) : Runs C M k n pc P (.int x :: S) G Q := by
  have hq := d.2
  subst hq hP'
  refine Runs.pure d (fun p e s m args below meth c T locs L hw hx hown hZ hd hP hsz _ X => ?_) h
  obtain ⟨L', e1, e2, e3⟩ := hP.store1 (i := j) (v := .int x) (by omega) rfl
  exact ⟨L', e3, e2.trans hsz, fun t r => XS.istore (g := mkF m pc L (.int x :: S)) X.here hx rfl hd rfl e1 r⟩
theorem Runs.astoreN {j : Fin 4} {x : Nat} (d : DAt M pc (.astore_n j) 1 q) (hi : j.val < M.2.2.1) (hP' : ps1 P j.val (.ref x) = P') (h : Runs C M k n q P' S G Q) : Runs C M k n pc P (.ref x :: S) G Q := by
  have hq := d.2
  subst hq hP'
  refine Runs.pure d (fun p e s m args below meth c T locs L hw hx hown hZ hd hP hsz _ X => ?_) h
  obtain ⟨L', e1, e2, e3⟩ := hP.store1 (i := j.val) (v := .ref x) (by omega) rfl
  exact ⟨L', e3, e2.trans hsz, fun t r => XS.astoreN (g := mkF m pc L (.ref x :: S)) X.here hx rfl hd rfl rfl e1 r⟩
theorem Runs.astore {j : Nat} {x : Nat} (d : DAt M pc (.astore j) 2 q) (hi : j < M.2.2.1) (hP' : ps1 P j (.ref x) = P') (h : Runs C M k n q P' S G Q) : Runs C M k n pc P (.ref x :: S) G Q := by
  have hq := d.2
  subst hq hP'
  refine Runs.pure d (fun p e s m args below meth c T locs L hw hx hown hZ hd hP hsz _ X => ?_) h
  obtain ⟨L', e1, e2, e3⟩ := hP.store1 (i := j) (v := .ref x) (by omega) rfl
  exact ⟨L', e3, e2.trans hsz, fun t r => XS.astore (g := mkF m pc L (.ref x :: S)) X.here hx rfl hd rfl rfl e1 r⟩
theorem Runs.lstoreN {j : Fin 4} {x : Int64} (d : DAt M pc (.lstore_n j) 1 q) (hi : j.val + 1 < M.2.2.1) (hP' : ps2 P j.val (.long x) = P') (h : Runs C M k n q P' S G Q) : Runs C M k n pc P (.long x :: S) G Q := by
  have hq := d.2
  subst hq hP'
  refine Runs.pure d (fun p e s m args below meth c T locs L hw hx hown hZ hd hP hsz _ X => ?_) h
  obtain ⟨L', e1, e2, e3⟩ := hP.store2 (i := j.val) (v := .long x) (by omega) rfl
  exact ⟨L', e3, e2.trans hsz, fun t r => XS.lstoreN (g := mkF m pc L (.long x :: S)) X.here hx rfl hd rfl e1 r⟩
theorem Runs.lstore {j : Nat} {x : Int64} (d : DAt M pc (.lstore j) 2 q) (hi : j + 1 < M.2.2.1) (hP' : ps2 P j (.long x) = P') (h : Runs C M k n q P' S G Q) : Runs C M k n pc P (.long x :: S) G Q := by
  have hq := d.2
  subst hq hP'
  refine Runs.pure d (fun p e s m args below meth c T locs L hw hx hown hZ hd hP hsz _ X => ?_) h
  obtain ⟨L', e1, e2, e3⟩ := hP.store2 (i := j) (v := .long x) (by omega) rfl
  exact ⟨L', e3, e2.trans hsz, fun t r => XS.lstore (g := mkF m pc L (.long x :: S)) X.here hx rfl hd rfl e1 r⟩
theorem Runs.iinc {j : Nat} {cst : Int} {x v : Int32} (d : DAt M pc (.iinc j cst) 3 q) (hv : Int32.ofInt cst = v) (hl : pget P j = vi x) (hi : j < M.2.2.1) (hP' : ps1 P j (.int (x + v)) = P') (h : Runs C M k n q P' S G Q) : Runs C M k n pc P S G Q := by
  have hq := d.2
  subst hq hP' hv
  refine Runs.pure d (fun p e s m args below meth c T locs L hw hx hown hZ hd hP hsz _ X => ?_) h
  obtain ⟨L', e1, e2, e3⟩ := hP.store1 (i := j) (v := .int (x + Int32.ofInt cst)) (by omega) rfl
  exact ⟨L', e3, e2.trans hsz, fun t r => XS.iinc (g := mkF m pc L S) X.here hx rfl hd (hP.1 _ _ hl) e1 r⟩
/-- less is known of the locals -/
def psub : Pat → Pat → Prop
  | [], _ => True
  | none :: l, _ :: l' => psub l l'
  | some s :: l, y :: l' => y = some s ∧ psub l l'
  | none :: l, [] => psub l []
  | some _ :: _, [] => False
theorem psub_get : ∀ (P P' : Pat), psub P P' → ∀ i s, pget P i = some s → pget P' i = some s
  | [], _, _, i, s, h => by simp [pget] at h
  | none :: l, _ :: l', H, 0, s, h => by simp [pget] at h
  | none :: l, _ :: l', H, i + 1, s, h => psub_get l l' H i s h
  | some x :: l, y :: l', H, 0, s, h => by rw [show y = some x from H.1]; exact h
  | some x :: l, y :: l', H, i + 1, s, h => psub_get l l' H.2 i s h
  | none :: l, [], H, 0, s, h => by simp [pget] at h
  | none :: l, [], H, i + 1, s, h => by have := psub_get l [] H i s h; simp [pget] at this
  | some _ :: _, [], H, _, _, _ => H.elim
theorem Runs.weak (hP : psub P' P) (h : Runs C M k n pc P' S G Q) : Runs C M k n pc P S G Q := by
  intro hw p e s m args below meth c T locs L hx hby hml hret hnm hown hZ hf
  exact h hw p e s m args below meth c T locs L hx hby hml hret hnm hown hZ ⟨fun i s hi => hf.1 i s (psub_get _ _ hP i s hi), hf.2⟩
theorem Runs.swap {top : Nat} {x y : Nat × Nat × Rec} {H : List (Nat × Nat × Rec)} (h : Runs C M k n pc P S (top, y :: x :: H) Q) : Runs C M k n pc P S (top, x :: y :: H) Q := by
  intro hw p e s m args below meth c T locs L hx hby hml hret hnm hown hZ hf hsz X hR hF
  exact h hw p e s m args below meth c T locs L hx hby hml hret hnm hown hZ hf hsz X hR.swap hF
end Rules
/- the steps that touch the heap -/
section Made
variable {p : Program} {l : Launch} {e : Env} {R : Room} {s : State} {m : MethodId} {args : Array Value} {below : List Frame} {meth : Method} {c : Code} {T : State} {locs : List Loc} {cells slots : Nat} {Z : State} {a0 : Array Value}
theorem ext_push (h : Heap) (x : Cell) : Ext h (h.push x) := ⟨by simp, fun a c q => by rw [Array.getElem?_push_lt (Array.getElem?_eq_some_iff.mp q).1]; exact (Array.getElem?_eq_getElem _).symm.trans q⟩
/-- 'new', with the heap's size behind it -/
theorem new1 (X : Stand p l e R s m args below meth c T locs cells slots) (hx : p.tables.exec = Jvm.exec) (hZ : Z.Warmed39 s.vm) {own C : String} {index n : Nat} (hown : s.vm.findClass own = some m.cls) (w : (Jvm.Cond.classLink own index C).before a0 Z = true) (wi : (Jvm.Cond.instantiable C n).before a0 Z = true) (wz : (Jvm.Cond.initialized C).before a0 Z = true)
    {g : JFrame} (hg : g.method = m) (hd : decode c.code g.pc = .ok (.new index, 3)) (hc : cells + 1 ≤ R.cells) (hl : slots + n ≤ R.slots) :
    ∃ T', Stand p l e R s m args below meth c T' locs (cells + 1) (slots + n) ∧ T'.heap.size = T.heap.size + 1 ∧ Ext T.heap T'.heap ∧ Exa Z T'.heap T.heap.size C ∧ (∀ {O nm d : String} {ty : FieldType}, Laid Z a0 C O nm d → parseFieldDescriptor d = some ty → Fld Z T'.heap T.heap.size O nm d (defaultValue ty)) ∧
      ∀ target, Steps p.tables e below (T'.setTop { g with pc := g.pc + 3, stack := .ref T.heap.size :: g.stack }) target → Steps p.tables e below (T.setTop g) target := by
  obtain ⟨vm', cC, kC, h1, h2, h3, h4, X', st⟩ := X.newCold hx hown (mv hZ w) (mv hZ wi) (mv hZ wz) hg hd hc hl
  rw [hZ.alike.findClass] at h1
  obtain ⟨kZ, z1, -⟩ := Vm.findClass_spec h1
  obtain ⟨k', z2, z3⟩ := hZ.alike.2.2 _ _ z1
  have ek : kC.instanceTypes = kZ.instanceTypes := by rw [Option.some.inj (h2.symm.trans z2), z3]
  obtain ⟨cell, hcell⟩ : ∃ cell : Cell, cell = { cls := cC, slots := kC.instanceTypes.map defaultValue, vm := .none } := ⟨_, rfl⟩
  rw [← hcell] at X' st
  have hp : ((T.setVm vm').pushCell cell).heap = T.heap.push cell := rfl
  have at' : (T.heap.push cell)[T.heap.size]? = some cell := by simp
  refine ⟨_, X', by rw [hp]; simp, by rw [hp]; exact ext_push _ _, ?_, fun {O nm d ty} L ht => ?_, st⟩
  · rw [hp]; exact ⟨cell, kZ, at', by rw [hcell]; exact h1, by rw [hcell]; exact z1, by rw [hcell]; rfl, fun _ => by rw [hcell]; simp [ek]⟩
  · rw [hp]
    obtain ⟨c1, k1, cf, kf, i, f, a1, a2, a3, a4, a5, a6, -⟩ := L.spec
    cases h1.symm.trans a1
    cases z1.symm.trans a2
    refine ⟨cell, cf, kf, i, f, at', a3, a4, by rw [hcell]; simp, by rw [hcell]; rfl, by rw [hcell]; exact a5, ?_⟩
    rw [hcell]; simp [ek, a6, (State.fieldFound?_type a3 ht).2]
theorem newArr1 (X : Stand p l e R s m args below meth c T locs cells slots) (hx : p.tables.exec = Jvm.exec) (hZ : Z.Warmed39 s.vm) {aty : ArrayType} (w : (Jvm.Cond.arrayClass (newarray.typeOf aty)).before a0 Z = true) {g : JFrame} (hg : g.method = m) (hd : decode c.code g.pc = .ok (.newarray aty, 2)) {n : Int32} {rest : List Value} (hs : g.stack = .int n :: rest)
    (hn : ¬ n < 0) (hb : n.toNatClampNeg * 8 ≤ 536870912) (hc : cells + 1 ≤ R.cells) (hl : slots + n.toNatClampNeg ≤ R.slots) :
    ∃ T' cA, Stand p l e R s m args below meth c T' locs (cells + 1) (slots + n.toNatClampNeg) ∧ T'.heap.size = T.heap.size + 1 ∧ Ext T.heap T'.heap ∧ Arr Z T'.heap T.heap.size (newA cA (newarray.typeOf aty) n) (newarray.typeOf aty) ∧
      ∀ target, Steps p.tables e below (T'.setTop { g with pc := g.pc + 2, stack := .ref T.heap.size :: rest }) target → Steps p.tables e below (T.setTop g) target := by
  have hcb : componentBytes (newarray.typeOf aty) ≤ 8 := by cases aty <;> decide
  obtain ⟨cA, kA, comp, h1, h2, h3, X', st⟩ := X.newarrayPrim hx (mvA hZ w) hg hd hs hn (Nat.le_trans (Nat.mul_le_mul_left _ hcb) hb) hc hl
  rw [hZ.alike.findClass] at h1
  obtain ⟨kZ, z1, -⟩ := Vm.findClass_spec h1
  obtain ⟨k', z2, z3⟩ := hZ.alike.2.2 _ _ z1
  have ek : kA.kind = kZ.kind := by rw [Option.some.inj (h2.symm.trans z2), z3]
  have hp : (T.pushCell (newA cA (newarray.typeOf aty) n)).heap = T.heap.push (newA cA (newarray.typeOf aty) n) := rfl
  refine ⟨T.pushCell (newA cA (newarray.typeOf aty) n), cA, X', by rw [hp]; simp, by rw [hp]; exact ext_push _ _, ?_, st⟩
  rw [hp]
  exact ⟨by simp, ⟨by simp [newA], kZ, z1, comp, by rw [← ek]; exact h3⟩, by simp [newA]⟩
end Made
section Heap
variable {C : Ctx} {M : Bdy} {k n pc q : Nat} {P P' : Pat} {S S' : List Value} {G : AH} {Q : Option Value → AH → Prop} {top : Nat} {a : Nat} {qq j idx : Nat} {ob : Rec} {H : List (Nat × Nat × Rec)} {nm ds : String}
theorem Runs.getI (d : DAt M pc (.getfield idx) 3 q) (w : Jvm.Cond.fieldLink M.1.cls idx K.1 nm ds ∈ tables_1) (hk : K.2.1[j]? = some (nm, ds)) (h : Runs C M k n q P (.int (gI ob j) :: S) (top, (a, qq, ob) :: H) Q) : Runs C M k n pc P (.ref a :: S) (top, (a, qq, ob) :: H) Q := by
  intro hw p e s m args below meth c T locs L hx hby hml hret hnm hown hZ hf hsz X hR hF
  have hq := d.2
  subst hq
  obtain ⟨T1, X1, e1, st1⟩ := getF X hx hZ hown (host := "") (Or.inl (hw _ w)) Via.refl rfl (hR.objs.2.2.2.1 j _ hk) (g := mkF m pc L (.ref a :: S)) rfl rfl (hb hby d.1)
  obtain ⟨T', locs', k', n', r, G', g1, g2, g3, g4, g5, g6, g7, g8⟩ := h hw p e s m args below meth c T1 locs L hx hby hml hret hnm hown hZ hf hsz X1 (by rw [e1]; exact hR) hF
  exact ⟨T', locs', k', n', r, G', g1, g2, g3, g4, g5, g6, g7, fun fs hr => st1 _ (g8 fs hr)⟩
theorem Runs.getA {ty : FieldType} {len : Int32} (d : DAt M pc (.getfield idx) 3 q) (hk : K.2.2[j]? = some (nm, ty, len)) (w : Jvm.Cond.fieldLink M.1.cls idx K.1 nm (aD ty) ∈ tables_1) (hq : j < qq) (h : Runs C M k n q P (.ref (a + 1 + j) :: S) (top, (a, qq, ob) :: H) Q) : Runs C M k n pc P (.ref a :: S) (top, (a, qq, ob) :: H) Q := by
  intro hw p e s m args below meth c T locs L hx hby hml hret hnm hown hZ hf hsz X hR hF
  have hqq := d.2
  subst hqq
  obtain ⟨T1, X1, e1, st1⟩ := getF X hx hZ hown (host := "") (Or.inl (hw _ w)) Via.refl rfl (hR.objs.2.2.2.2.1 j _ hk hq).1 (g := mkF m pc L (.ref a :: S)) rfl rfl (hb hby d.1)
  obtain ⟨T', locs', k', n', r, G', g1, g2, g3, g4, g5, g6, g7, g8⟩ := h hw p e s m args below meth c T1 locs L hx hby hml hret hnm hown hZ hf hsz X1 (by rw [e1]; exact hR) hF
  exact ⟨T', locs', k', n', r, G', g1, g2, g3, g4, g5, g6, g7, fun fs hr => st1 _ (g8 fs hr)⟩
theorem lw_of {Z : State} {a0 : Array Value} {meth : Method} (hw : ∀ d ∈ tables_1, d.before a0 Z = true) {C O n d own : String} (h : Jvm.Cond.lays C O n d ∈ tables_1 ∨ Jvm.Cond.laysFinal C O n d ∈ tables_1) (hc : Jvm.Cond.lays C O n d ∈ tables_1 ∨ (own = O ∧ meth.name = "<init>")) : (Jvm.Cond.lays C O n d).before a0 Z = true ∨ ((Jvm.Cond.laysFinal C O n d).before a0 Z = true ∧ own = O ∧ meth.name = "<init>") := by
  rcases hc with hc | hc
  · exact Or.inl (hw _ hc)
  · exact h.imp (hw _) (fun u => ⟨hw _ u, hc⟩)
/-- a field that may be written here: not final, or in a constructor of its class -/
def Mine (M : Bdy) (nm ds : String) : Prop := Jvm.Cond.lays K.1 K.1 nm ds ∈ tables_1 ∨ (M.1.cls = K.1 ∧ M.1.name = "<init>")
theorem Runs.putI {x : Int32} (d : DAt M pc (.putfield idx) 3 q) (w : Jvm.Cond.fieldLink M.1.cls idx K.1 nm "I" ∈ tables_1) (hk : K.2.1[j]? = some (nm, "I")) (hm : Mine M nm "I") (h : Runs C M k n q P S (top, (a, qq, sI ob j x) :: H) Q) : Runs C M k n pc P (.int x :: .ref a :: S) (top, (a, qq, ob) :: H) Q := by
  intro hw p e s m args below meth c T locs L hx hby hml hret hnm hown hZ hf hsz X hR hF
  have hqq := d.2
  subst hqq
  obtain ⟨T1, h1, X1, e1, W1, st1⟩ := putF X hx hZ hown (host := "") (Or.inl (hw _ w)) Via.refl rfl (hR.objs.2.2.2.1 j _ hk) hR.objs.2.2.1 (lw_of hw ((All.mem kS (List.mem_of_getElem? hk)).1) (hm.imp id (fun u => ⟨u.1, hnm.trans u.2⟩))) (hw _ kI) (ty := .int) (by decide) rfl rfl (g := mkF m pc L (.int x :: .ref a :: S)) rfl rfl (hb hby d.1)
  obtain ⟨T', locs', k', n', r, G', g1, g2, g3, g4, g5, g6, g7, g8⟩ := h hw p e s m args below meth c T1 _ L hx hby hml hret hnm hown hZ hf hsz X1 (by rw [e1]; exact hR.putI hw hk W1) (Fr.snoc X1 hF hR.objs.1)
  exact ⟨T', locs', k', n', r, G', g1, g2, g3, g4, g5, g6, g7, fun fs hr => st1 _ (g8 fs hr)⟩
theorem Runs.putZ {x y : Int32} (d : DAt M pc (.putfield idx) 3 q) (w : Jvm.Cond.fieldLink M.1.cls idx K.1 nm "Z" ∈ tables_1) (hk : K.2.1[j]? = some (nm, "Z")) (hm : Mine M nm "Z") (hy : nar .boolean x = y) (h : Runs C M k n q P S (top, (a, qq, sI ob j y) :: H) Q) : Runs C M k n pc P (.int x :: .ref a :: S) (top, (a, qq, ob) :: H) Q := by
  subst hy
  intro hw p e s m args below meth c T locs L hx hby hml hret hnm hown hZ hf hsz X hR hF
  have hqq := d.2
  subst hqq
  obtain ⟨T1, h1, X1, e1, W1, st1⟩ := putFN X hx hZ hown (hw _ w) Via.refl rfl (hR.objs.2.2.2.1 j _ hk) hR.objs.2.2.1 (lw_of hw ((All.mem kS (List.mem_of_getElem? hk)).1) (hm.imp id (fun u => ⟨u.1, hnm.trans u.2⟩))) (hw _ kI) (ty := .boolean) (v' := .int (nar .boolean x)) (by decide) rfl (fits_nar_bool _) (g := mkF m pc L (.int x :: .ref a :: S)) rfl rfl (hb hby d.1)
  obtain ⟨T', locs', k', n', r, G', g1, g2, g3, g4, g5, g6, g7, g8⟩ := h hw p e s m args below meth c T1 _ L hx hby hml hret hnm hown hZ hf hsz X1 (by rw [e1]; exact hR.putI hw hk W1) (Fr.snoc X1 hF hR.objs.1)
  exact ⟨T', locs', k', n', r, G', g1, g2, g3, g4, g5, g6, g7, fun fs hr => st1 _ (g8 fs hr)⟩
theorem Runs.ialoadA {i len : Int32} (d : DAt M pc .iaload 1 q) (hk : K.2.2[j]? = some (nm, .int, len)) (hq : j < qq) (hi : ¬ i < 0 ∧ i < len) (h : Runs C M k n q P (.int (gA ob j i) :: S) (top, (a, qq, ob) :: H) Q) : Runs C M k n pc P (.int i :: .ref (a + 1 + j) :: S) (top, (a, qq, ob) :: H) Q := by
  have hqq := d.2
  subst hqq
  refine Runs.pure d (fun p e s m args below meth c T locs L hw hx hown hZ hd hP hsz hR X => ⟨L, hP, hsz, fun t r => ?_⟩) h
  obtain ⟨cl, A, Sz, V⟩ := (hR.objs.2.2.2.2.1 j _ hk hq).2
  exact X.iaload hx (j := i) (v := .int (gA ob j i)) A.1 (State.isArrayOf_alike hZ.alike A.2.1) A.2.2 (inb_of Sz hi) (V i hi.1 hi.2) (g := mkF m pc L (.int i :: .ref (a + 1 + j) :: S)) rfl rfl hd _ r
theorem Runs.baloadA {i len : Int32} (d : DAt M pc .baload 1 q) (hk : K.2.2[j]? = some (nm, .boolean, len)) (hq : j < qq) (hi : ¬ i < 0 ∧ i < len) (h : Runs C M k n q P (.int (gA ob j i) :: S) (top, (a, qq, ob) :: H) Q) : Runs C M k n pc P (.int i :: .ref (a + 1 + j) :: S) (top, (a, qq, ob) :: H) Q := by
  have hqq := d.2
  subst hqq
  refine Runs.pure d (fun p e s m args below meth c T locs L hw hx hown hZ hd hP hsz hR X => ⟨L, hP, hsz, fun t r => ?_⟩) h
  obtain ⟨cl, A, Sz, V⟩ := (hR.objs.2.2.2.2.1 j _ hk hq).2
  exact X.baloadBooleans hx (j := i) (v := .int (gA ob j i)) A.1 (State.isArrayOf_alike hZ.alike A.2.1) A.2.2 (inb_of Sz hi) (V i hi.1 hi.2) (g := mkF m pc L (.int i :: .ref (a + 1 + j) :: S)) rfl rfl hd _ r
theorem Runs.laloadA {i len : Int32} (d : DAt M pc .laload 1 q) (hk : K.2.2[j]? = some (nm, .long, len)) (hq : j < qq) (hi : ¬ i < 0 ∧ i < len) (h : Runs C M k n q P (.long (gJ ob j i) :: S) (top, (a, qq, ob) :: H) Q) : Runs C M k n pc P (.int i :: .ref (a + 1 + j) :: S) (top, (a, qq, ob) :: H) Q := by
  have hqq := d.2
  subst hqq
  refine Runs.pure d (fun p e s m args below meth c T locs L hw hx hown hZ hd hP hsz hR X => ⟨L, hP, hsz, fun t r => ?_⟩) h
  obtain ⟨cl, A, Sz, V⟩ := (hR.objs.2.2.2.2.1 j _ hk hq).2
  exact X.laload hx (j := i) (v := .long (gJ ob j i)) A.1 (State.isArrayOf_alike hZ.alike A.2.1) A.2.2 (inb_of Sz hi) (V i hi.1 hi.2) (g := mkF m pc L (.int i :: .ref (a + 1 + j) :: S)) rfl rfl hd _ r
theorem Runs.iastoreA {i x len : Int32} (d : DAt M pc .iastore 1 q) (hk : K.2.2[j]? = some (nm, .int, len)) (hq : j < qq) (hi : ¬ i < 0 ∧ i < len) (h : Runs C M k n q P S (top, (a, qq, sA ob j i x) :: H) Q) : Runs C M k n pc P (.int x :: .int i :: .ref (a + 1 + j) :: S) (top, (a, qq, ob) :: H) Q := by
  intro hw p e s m args below meth c T locs L hx hby hml hret hnm hown hZ hf hsz X hR hF
  have hqq := d.2
  subst hqq
  obtain ⟨cl, A, Sz, V⟩ := (hR.objs.2.2.2.2.1 j _ hk hq).2
  obtain ⟨T1, h1, X1, e1, W1, st1⟩ := stI X hx hZ rfl A (j := i) (x := x) (inb_of Sz hi) (g := mkF m pc L (.int x :: .int i :: .ref (a + 1 + j) :: S)) rfl rfl (hb hby d.1)
  obtain ⟨T', locs', k', n', r, G', g1, g2, g3, g4, g5, g6, g7, g8⟩ := h hw p e s m args below meth c T1 _ L hx hby hml hret hnm hown hZ hf hsz X1 (by rw [e1]; exact hR.putA hk hq (by simp) hi W1) (Fr.snoc X1 hF (by have := hR.objs.1; omega))
  exact ⟨T', locs', k', n', r, G', g1, g2, g3, g4, g5, g6, g7, fun fs hr => st1 _ (g8 fs hr)⟩
theorem Runs.bastoreA {i x len : Int32} (d : DAt M pc .bastore 1 q) (hk : K.2.2[j]? = some (nm, .boolean, len)) (hq : j < qq) (hi : ¬ i < 0 ∧ i < len) {y : Int32} (hy : nar .boolean x = y) (h : Runs C M k n q P S (top, (a, qq, sA ob j i y) :: H) Q) : Runs C M k n pc P (.int x :: .int i :: .ref (a + 1 + j) :: S) (top, (a, qq, ob) :: H) Q := by
  subst hy
  intro hw p e s m args below meth c T locs L hx hby hml hret hnm hown hZ hf hsz X hR hF
  have hqq := d.2
  subst hqq
  obtain ⟨cl, A, Sz, V⟩ := (hR.objs.2.2.2.2.1 j _ hk hq).2
  obtain ⟨T1, h1, X1, e1, W1, st1⟩ := stZ X hx hZ rfl A (j := i) (x := x) (inb_of Sz hi) (g := mkF m pc L (.int x :: .int i :: .ref (a + 1 + j) :: S)) rfl rfl (hb hby d.1)
  obtain ⟨T', locs', k', n', r, G', g1, g2, g3, g4, g5, g6, g7, g8⟩ := h hw p e s m args below meth c T1 _ L hx hby hml hret hnm hown hZ hf hsz X1 (by rw [e1]; exact hR.putA hk hq (by simp) hi W1) (Fr.snoc X1 hF (by have := hR.objs.1; omega))
  exact ⟨T', locs', k', n', r, G', g1, g2, g3, g4, g5, g6, g7, fun fs hr => st1 _ (g8 fs hr)⟩
theorem Runs.lastoreA {i len : Int32} {x : Int64} (d : DAt M pc .lastore 1 q) (hk : K.2.2[j]? = some (nm, .long, len)) (hq : j < qq) (hi : ¬ i < 0 ∧ i < len) (h : Runs C M k n q P S (top, (a, qq, sJ ob j i x) :: H) Q) : Runs C M k n pc P (.long x :: .int i :: .ref (a + 1 + j) :: S) (top, (a, qq, ob) :: H) Q := by
  intro hw p e s m args below meth c T locs L hx hby hml hret hnm hown hZ hf hsz X hR hF
  have hqq := d.2
  subst hqq
  obtain ⟨cl, A, Sz, V⟩ := (hR.objs.2.2.2.2.1 j _ hk hq).2
  obtain ⟨T1, h1, X1, e1, W1, st1⟩ := stJ X hx hZ rfl A (j := i) (x := x) (inb_of Sz hi) (g := mkF m pc L (.long x :: .int i :: .ref (a + 1 + j) :: S)) rfl rfl (hb hby d.1)
  obtain ⟨T', locs', k', n', r, G', g1, g2, g3, g4, g5, g6, g7, g8⟩ := h hw p e s m args below meth c T1 _ L hx hby hml hret hnm hown hZ hf hsz X1 (by rw [e1]; exact hR.putJ hk hq rfl hi W1) (Fr.snoc X1 hF (by have := hR.objs.1; omega))
  exact ⟨T', locs', k', n', r, G', g1, g2, g3, g4, g5, g6, g7, fun fs hr => st1 _ (g8 fs hr)⟩
/-- the script: an array that stood before the law began -/
def ScrF (C : Ctx) (sa : Nat) (z : Int32) (f : Int32 → Int32) : Prop := ∃ cl : Cell, Scr C.2.1 C.2.1.heap sa cl z ∧ f = atv cl
theorem Runs.lenS {sa : Nat} {z : Int32} {f : Int32 → Int32} (hs : ScrF C sa z f) (d : DAt M pc .arraylength 1 q) (h : Runs C M k n q P (.int z :: S) G Q) : Runs C M k n pc P (.ref sa :: S) G Q := by
  have hqq := d.2
  subst hqq
  refine Runs.pure d (fun p e s m args below meth c T locs L hw hx hown hZ hd hP hsz hR X => ⟨L, hP, hsz, fun t r => ?_⟩) h
  obtain ⟨cl, F, -⟩ := hs
  obtain ⟨A, Sz, N, V⟩ := F.ext hR.2.1.2
  exact X.arraylength hx A.1 (State.isArrayOf_alike hZ.alike A.2.1) (g := mkF m pc L (.ref sa :: S)) rfl rfl hd _ (by rw [len_of Sz N]; exact r)
theorem Runs.ialoadS {sa : Nat} {z i : Int32} {f : Int32 → Int32} (hs : ScrF C sa z f) (d : DAt M pc .iaload 1 q) (hi : ¬ i < 0 ∧ i < z) (h : Runs C M k n q P (.int (f i) :: S) G Q) : Runs C M k n pc P (.int i :: .ref sa :: S) G Q := by
  have hqq := d.2
  subst hqq
  refine Runs.pure d (fun p e s m args below meth c T locs L hw hx hown hZ hd hP hsz hR X => ⟨L, hP, hsz, fun t r => ?_⟩) h
  obtain ⟨cl, F, rfl⟩ := hs
  obtain ⟨A, Sz, N, V⟩ := F.ext hR.2.1.2
  exact X.iaload hx (j := i) (v := .int (atv cl i)) A.1 (State.isArrayOf_alike hZ.alike A.2.1) A.2.2 (inb_of Sz hi) (V i (inb_of Sz hi)) (g := mkF m pc L (.int i :: .ref sa :: S)) rfl rfl hd _ r
/- leaving -/
theorem Runs.retI {v : Int32} (d : DAt M pc .ireturn 1 q) (hret : M.2.2.2.1 = some .int) (hk : k ≤ M.2.2.2.2.cells ∧ n ≤ M.2.2.2.2.slots) (hQ : Q (some (.int v)) G) : Runs C M k n pc P (.int v :: S) G Q := by
  intro hw p e s m args below meth c T locs L hx hby hml hr0 hnm hown hZ hf hsz X hR hF
  exact ⟨T, locs, k, n, _, G, X, hk.1, hk.2, hR, hF, hQ, (fun u => by rw [hret] at u; cases u), fun fs hr => Jvm.RoadKit.retI X hx (hr0.trans hret) (hb hby d.1) hr⟩
theorem Runs.retZ {v : Int32} (d : DAt M pc .ireturn 1 q) (hret : M.2.2.2.1 = some .boolean) (hk : k ≤ M.2.2.2.2.cells ∧ n ≤ M.2.2.2.2.slots) {y : Int32} (hy : nar .boolean v = y) (hQ : Q (some (.int y)) G) : Runs C M k n pc P (.int v :: S) G Q := by
  subst hy
  intro hw p e s m args below meth c T locs L hx hby hml hr0 hnm hown hZ hf hsz X hR hF
  exact ⟨T, locs, k, n, _, G, X, hk.1, hk.2, hR, hF, hQ, (fun u => by rw [hret] at u; cases u), fun fs hr => retN X hx (t := .boolean) (hr0.trans hret) (by simp) (hb hby d.1) hr⟩
theorem Runs.retJ {v : Int64} (d : DAt M pc .lreturn 1 q) (hret : M.2.2.2.1 = some .long) (hk : k ≤ M.2.2.2.2.cells ∧ n ≤ M.2.2.2.2.slots) (hQ : Q (some (.long v)) G) : Runs C M k n pc P (.long v :: []) G Q := by
  intro hw p e s m args below meth c T locs L hx hby hml hr0 hnm hown hZ hf hsz X hR hF
  exact ⟨T, locs, k, n, _, G, X, hk.1, hk.2, hR, hF, hQ, (fun u => by rw [hret] at u; cases u), fun fs hr => X.lreturnOut hx (hr0.trans hret) (hb hby d.1) hr⟩
theorem Runs.retV (d : DAt M pc .return_ 1 q) (hret : M.2.2.2.1 = none) (hk : k ≤ M.2.2.2.2.cells ∧ n ≤ M.2.2.2.2.slots) (hQ : Q none G) : Runs C M k n pc P [] G Q := by
  intro hw p e s m args below meth c T locs L hx hby hml hr0 hnm hown hZ hf hsz X hR hF
  exact ⟨T, locs, k, n, _, G, X, hk.1, hk.2, hR, hF, hQ, (fun _ => rfl), fun fs hr => X.returnOut hx (hr0.trans hret) (hb hby d.1) hr⟩
/- a new object, and the arrays that its constructor makes -/
theorem Runs.newK (d : DAt M pc (.new idx) 3 q) (w : Jvm.Cond.classLink M.1.cls idx K.1 ∈ tables_1) (hc : k + 1 ≤ M.2.2.2.2.cells ∧ n + kN ≤ M.2.2.2.2.slots) {k' n' : Nat} (hk' : k + 1 = k') (hn' : n + kN = n') {H : List (Nat × Nat × Rec)} (hd : ∀ x ∈ H, x.1 + x.2.1 < top) (h : Runs C M k' n' q P (.ref top :: S) (top + 1, (top, 0, zrec) :: H) Q) : Runs C M k n pc P S (top, H) Q := by
  subst hk' hn'
  intro hw p e s m args below meth c T locs L hx hby hml hr0 hnm hown hZ hf hsz X hR hF
  have hqq := d.2
  subst hqq
  obtain ⟨T2, X2, s2, E2, A2, D2, st2⟩ := new1 X hx hZ hown (hw _ w) (hw _ kI) (hw _ kZ) (g := mkF m pc L S) rfl (hb hby d.1) hc.1 hc.2
  have hs : T.heap.size = top := hR.1
  rw [hs] at A2 D2 st2 s2
  have hR2 : Rep C.2.1 C.2.2.1 T2.heap (top + 1, (top, 0, zrec) :: H) := by
    refine ⟨s2, hR.2.1.ext E2, fun x hx' => ?_, ?_⟩
    · rcases List.mem_cons.mp hx' with rfl | hx'
      · refine ⟨?_, by simp, A2, fun k nd hk => ?_, fun k t hk hq => by simp at hq, fun k t hk hq => ?_⟩
        · have := hR.2.1.2.1; rw [hR.2.1.1] at this; simp only; omega
        · rcases (All.mem kS (List.mem_of_getElem? hk)).2 with e | e
          · have := D2 (laidS hw hk) (ty := .int) (by rw [e]; decide); exact this
          · have := D2 (laidS hw hk) (ty := .boolean) (by rw [e]; decide); exact this
        · have := D2 (laidA hw hk) (pfA hk); exact this
      · obtain ⟨p1, p2, p3⟩ := hR.2.2.1 x hx'
        exact ⟨p1, by simp only at p2 ⊢; omega, p3.ext E2⟩
    · exact List.pairwise_cons.mpr ⟨fun y hy => Or.inr (hd y hy), hR.2.2.2⟩
  obtain ⟨T', locs', k', n', r, G', g1, g2, g3, g4, g5, g6, g7, g8⟩ := h hw p e s m args below meth c T2 _ L hx hby hml hr0 hnm hown hZ hf hsz X2 hR2 hF
  exact ⟨T', locs', k', n', r, G', g1, g2, g3, g4, g5, g6, g7, fun fs hr => st2 _ (g8 fs hr)⟩
/-- newarray and the putfield behind it: the next array of an object that is being made -/
theorem Runs.newArr {aty : ArrayType} {ty : FieldType} {len : Int32} {q1 : Nat} (d : DAt M pc (.newarray aty) 2 q1) (d' : DAt M q1 (.putfield idx) 3 q) (hk : K.2.2[j]? = some (nm, ty, len)) (w : Jvm.Cond.fieldLink M.1.cls idx K.1 nm (aD ty) ∈ tables_1) (ht : newarray.typeOf aty = ty) (wa : Jvm.Cond.arrayClass ty ∈ tables_1) (hm : Mine M nm (aD ty))
    (htop : top = a + 1 + j) (hlen : ¬ len < 0 ∧ len.toNatClampNeg * 8 ≤ 536870912) (hc : k + 1 ≤ M.2.2.2.2.cells ∧ n + len.toNatClampNeg ≤ M.2.2.2.2.slots) (hz : (∀ i, ob.2.1 j i = 0) ∧ (∀ i, ob.2.2 j i = 0)) {j' top' k' n' : Nat} (hj' : j + 1 = j') (ht' : top + 1 = top') (hk' : k + 1 = k') (hn' : n + len.toNatClampNeg = n')
    (h : Runs C M k' n' q P S (top', (a, j', ob) :: H) Q) : Runs C M k n pc P (.int len :: .ref a :: S) (top, (a, j, ob) :: H) Q := by
  subst hj' ht' hk' hn'
  intro hw p e s m args below meth c T locs L hx hby hml hr0 hnm hown hZ hf hsz X hR hF
  have hqq := d.2
  have hqq' := d'.2
  subst hqq hqq' ht
  obtain ⟨T1, cA, X1, s1, E1, A1, st1⟩ := newArr1 X hx hZ (hw _ wa) (g := mkF m pc L (.int len :: .ref a :: S)) rfl (hb hby d.1) rfl hlen.1 hlen.2 hc.1 hc.2
  have hs : T.heap.size = top := hR.1
  rw [hs] at A1 st1 s1
  have O1 := hR.objs.2.2.ext E1
  obtain ⟨T2, h2, X2, e2, W2, st2⟩ := putF X1 hx hZ hown (host := "") (Or.inl (hw _ w)) Via.refl rfl (O1.2.2.2 j _ hk (Nat.le_refl _)) O1.1 (lw_of hw ((All.mem kA (List.mem_of_getElem? hk)).1) (hm.imp id (fun u => ⟨u.1, hnm.trans u.2⟩))) (hw _ kI) (ty := .array (newarray.typeOf aty)) (pfA hk) rfl rfl (g := mkF m (pc + 2) L (.ref top :: .ref a :: S)) rfl rfl (hb hby d'.1)
  have hts : (newarray.typeOf aty = .int ∨ newarray.typeOf aty = .boolean ∨ newarray.typeOf aty = .long) := (All.mem kA (List.mem_of_getElem? hk)).2.1
  have hA := arr_new A1 hts hz
  have hR2 : Rep C.2.1 C.2.2.1 T2.heap (top + 1, (a, j + 1, ob) :: H) := by rw [e2]; exact hR.addA hw E1 s1 htop hk hA W2
  obtain ⟨T', locs', k', n', r, G', g1, g2, g3, g4, g5, g6, g7, g8⟩ := h hw p e s m args below meth c T2 _ L hx hby hml hr0 hnm hown hZ hf hsz X2 hR2 (Fr.snoc X2 hF hR.objs.1)
  exact ⟨T', locs', k', n', r, G', g1, g2, g3, g4, g5, g6, g7, fun fs hr => st1 _ (st2 _ (g8 fs hr))⟩
theorem Runs.initO {W : Nat} (d : DAt M pc (.invokespecial idx) 3 q) (w1 : Jvm.Cond.methodLink M.1.cls idx Lib.objectInit ∈ tables_1) (w2 : Jvm.Cond.instanceMethod Lib.objectInit ∈ tables_1) (w3 : Jvm.Cond.code Lib.objectInit ⟨#[0xb1]⟩ 1 none ∈ tables_1) (hW : (S.map fun v => v.category).sum = W) (hc : 1 ≤ M.2.2.2.2.frames ∧ W + 12 ≤ M.2.2.2.2.locals) (h : Runs C M k n q P S G Q) : Runs C M k n pc P (.ref a :: S) G Q := by
  intro hw p e s m args below meth c T locs L hx hby hml hr0 hnm hown hZ hf hsz X hR hF
  have hqq := d.2
  subst hqq
  obtain ⟨T1, X1, e1, st1⟩ := Jvm.RoadKit.initO X hx hZ hown (hw _ w1) (hw _ w2) (hw _ w3) rfl (g := mkF m pc L (.ref a :: S)) rfl (by rw [hml]; exact hsz) rfl (hb hby d.1) hc.1 (W := W) (by show 2 * 0 + _ ≤ _; omega) hc.2
  obtain ⟨T', locs', k', n', r, G', g1, g2, g3, g4, g5, g6, g7, g8⟩ := h hw p e s m args below meth c T1 _ L hx hby hml hr0 hnm hown hZ hf hsz X1 (by rw [e1]; exact hR) hF
  exact ⟨T', locs', k', n', r, G', g1, g2, g3, g4, g5, g6, g7, fun fs hr => st1 _ (g8 fs hr)⟩
end Heap
/- a body's contract, and the calls that are paid by one -/
def Pays (C : Ctx) (N : Bdy) (as : List Value) (G : AH) (Q : Option Value → AH → Prop) : Prop :=
  Ok C → ∀ h0 : Heap, Rep C.2.1 C.2.2.1 h0 G → ∀ ws : List Jvm.Cond, MetFree C.1 N.1 (head1 (Jvm.Cond.code N.1 N.2.1 N.2.2.1 N.2.2.2.1 :: ws) N.2.2.2.2) (fun a U => a = as.toArray ∧ C.2.1.Warmed39 U.vm ∧ U.heap = h0) (fun _ _ _ _ _ => True)
    (fun _ U o U' => ∃ v L, o = .returned v ∧ (Fr C.2.2.1 L ∧ ∃ G', Rep C.2.1 C.2.2.1 U'.heap G' ∧ Q v G') ∧ FrameEnd U o U' L N.2.2.2.2.cells N.2.2.2.2.slots)
def lay : List Value → List Slot
  | [] => []
  | v :: l => if v.category = 2 then .val v :: .second :: lay l else .val v :: lay l
theorem lay_foldl (l : List Value) : ∀ acc : Array Slot, (l.foldl (fun acc v => if v.category = 2 then (acc.push (.val v)).push .second else acc.push (.val v)) acc).toList = acc.toList ++ lay l := by
  induction l with
  | nil => intro acc; simp [lay]
  | cons v l ih =>
    intro acc
    rw [List.foldl_cons, ih]
    by_cases h : v.category = 2 <;> simp [lay, h]
theorem args_lay (as : List Value) (ml : Nat) : argsToLocals as.toArray ml = (lay as ++ List.replicate (ml - (lay as).length) Slot.unset).toArray := by
  have h := lay_foldl as #[]
  apply Array.ext'
  simp only [argsToLocals, Array.toList_append, List.toList_toArray] at *
  rw [show (as.toArray.foldl (init := #[]) fun acc v => if v.category = 2 then (acc.push (Slot.val v)).push .second else acc.push (.val v)).toList = lay as by simpa using h]
  congr 1
  rw [← Array.length_toList, show (as.toArray.foldl (init := #[]) fun acc v => if v.category = 2 then (acc.push (Slot.val v)).push .second else acc.push (.val v)).toList = lay as by simpa using h]
  simp
def WFL (l : List Slot) : Prop := (∀ i : Nat, l[i]? = some .second → ∃ (j : Nat) (v : Value), i = j + 1 ∧ l[j]? = some (.val v) ∧ v.category = 2) ∧ (∀ (i : Nat) (v : Value), l[i]? = some (.val v) → v.category = 2 → l[i + 1]? = some .second)
theorem WFL.unset (n : Nat) : WFL (List.replicate n Slot.unset) := by
  refine ⟨fun i h => ?_, fun i v h => ?_⟩ <;> (rw [List.getElem?_replicate] at h; split at h <;> cases h)
theorem WFL.one {l : List Slot} {v : Value} (h : WFL l) (hv : v.category ≠ 2) : WFL (.val v :: l) := by
  refine ⟨fun i hi => ?_, fun i w hi hw => ?_⟩
  · cases i with
    | zero => simp at hi
    | succ i =>
      obtain ⟨j, w, e1, e2, e3⟩ := h.1 i (by simpa using hi)
      exact ⟨j + 1, w, by omega, by simpa using e2, e3⟩
  · cases i with
    | zero => simp at hi; subst hi; exact absurd hw hv
    | succ i => have := h.2 i w (by simpa using hi) hw; simpa using this
theorem WFL.two {l : List Slot} {v : Value} (h : WFL l) (hv : v.category = 2) : WFL (.val v :: .second :: l) := by
  refine ⟨fun i hi => ?_, fun i w hi hw => ?_⟩
  · match i, hi with
    | 0, hi => simp at hi
    | 1, hi => exact ⟨0, v, rfl, by simp, hv⟩
    | i + 2, hi =>
      obtain ⟨j, w, e1, e2, e3⟩ := h.1 i (by simpa using hi)
      exact ⟨j + 2, w, by omega, by simpa using e2, e3⟩
  · match i, hi with
    | 0, hi => simp
    | 1, hi => simp at hi
    | i + 2, hi => have := h.2 i w (by simpa using hi) hw; simpa using this
theorem WFL.lay (as : List Value) (n : Nat) : WFL (lay as ++ List.replicate n Slot.unset) := by
  induction as with
  | nil => exact WFL.unset n
  | cons v l ih =>
    by_cases h : v.category = 2
    · simpa [Jvm.Pilot.@@N@@.lay, h] using ih.two h
    · simpa [Jvm.Pilot.@@N@@.lay, h] using ih.one h
def pforget : List Bool → Pat → Pat
  | [], _ => []
  | _, [] => []
  | true :: ms, x :: l => x :: pforget ms l
  | false :: ms, _ :: l => none :: pforget ms l
theorem pforget_get : ∀ (ms : List Bool) (P : Pat) (i : Nat) (s : Slot), pget (pforget ms P) i = some s → pget P i = some s
  | [], _, i, s, h => by simp [pforget, pget] at h
  | _ :: _, [], i, s, h => by simp [pforget, pget] at h
  | true :: ms, x :: l, 0, s, h => h
  | true :: ms, x :: l, i + 1, s, h => pforget_get ms l i s h
  | false :: ms, x :: l, 0, s, h => by simp [pforget, pget] at h
  | false :: ms, x :: l, i + 1, s, h => pforget_get ms l i s h
section Calls
variable {C : Ctx} {M N : Bdy} {k n pc q : Nat} {P P' : Pat} {S S' : List Value} {G G1 : AH} {Q : Option Value → AH → Prop} {top : Nat} {a : Nat} {qq j idx W : Nat} {ob : Rec} {H : List (Nat × Nat × Rec)} {as : List Value}
theorem Runs.forget (ms : List Bool) (hP : pforget ms P = P') (h : Runs C M k n pc P' S G Q) : Runs C M k n pc P S G Q := by
  intro hw p e s m args below meth c T locs L hx hby hml hret hnm hown hZ hf
  subst hP
  exact h hw p e s m args below meth c T locs L hx hby hml hret hnm hown hZ ⟨fun i s hi => hf.1 i s (pforget_get _ _ i s hi), hf.2⟩
theorem Pays.of (hpl : plainName N.1.cls = true) (hml : (lay as).length ≤ N.2.2.1) (x : Nat) (hP : (lay as).map some ++ List.replicate x none = P) (h : Runs C N 0 0 0 P [] G Q) : Pays C N as G Q := by
  intro hw h0 hR ws
  refine MetFree.of_bodySF (plainFor_of_name hpl) hisR ?_
  intro p e s m args below meth c s₁ Bd hml0 hp hK
  obtain ⟨rfl, hZ, hh⟩ := hp
  have X0 : Stand p C.1 e N.2.2.2.2 s m as.toArray below meth c s₁ [] 0 0 := Stand.of_body Bd
  have e0 : s₁.heap = h0 := by rw [← hh, Bd.state]; rfl
  obtain ⟨L, hL⟩ : ∃ L : Array Slot, L = (lay as ++ List.replicate (N.2.2.1 - (lay as).length) Slot.unset).toArray := ⟨_, rfl⟩
  have hfit : Fits P L := by
    subst hP hL
    refine ⟨fun i s hi => ?_, ?_⟩
    · rw [pget_eq] at hi
      cases hq : (lay as)[i]? with
      | none =>
        rw [List.getElem?_append_right (by simpa using hq), List.getElem?_replicate] at hi
        split at hi <;> simp at hi
      | some y =>
        have hlt := (List.getElem?_eq_some_iff.mp hq).1
        rw [List.getElem?_append_left (by simpa using hlt), List.getElem?_map, hq] at hi
        have this : y = s := by simpa using hi
        simp only [List.getElem?_toArray]
        rw [List.getElem?_append_left hlt, hq, this]
    · have := WFL.lay as (N.2.2.1 - (lay as).length)
      refine ⟨fun i hi => ?_, fun i v hi hv => ?_⟩
      · rw [List.getElem?_toArray] at hi
        obtain ⟨j, v, e1, e2, e3⟩ := this.1 i hi
        exact ⟨j, v, e1, by rw [List.getElem?_toArray]; exact e2, e3⟩
      · rw [List.getElem?_toArray] at hi ⊢
        exact this.2 i v hi hv
  obtain ⟨T', locs', k', n', r, G', g1, g2, g3, g4, g5, g6, g7, g8⟩ := h hw p e s m as.toArray below meth c s₁ [] L Bd.exec Bd.bytes hml0 Bd.returns (name_of_methodNamed Bd.named Bd.method).1 (findClass_of_methodNamed Bd.named) hZ hfit (by rw [hL]; simp; omega) X0 (by rw [e0]; exact hR) (Fr.nil _)
  obtain ⟨fs, hr, hrun, hended, hW, hsame⟩ := g1.leave (v := r) (fun u => g7 (by rw [← Bd.returns]; exact u))
  refine ⟨_, _, ?_, hrun, hended, _, _, rfl, ⟨g5, G', ?_, g6⟩, ⟨_, rfl⟩, hW, hsame.mono g2 g3⟩
  · have ef : entryFrame m as.toArray N.2.2.1 = mkF m 0 L [] := by
      rw [hL, ← args_lay]; rfl
    rw [ef]; exact g8 fs hr
  · exact g4
abbrev room_al (M N : Bdy) (W k n : Nat) : Prop := N.2.2.2.2.frames + 1 ≤ M.2.2.2.2.frames ∧ W + (N.2.2.1 + 11) + N.2.2.2.2.locals ≤ M.2.2.2.2.locals ∧ k + N.2.2.2.2.cells ≤ M.2.2.2.2.cells ∧ n + N.2.2.2.2.slots ≤ M.2.2.2.2.slots
abbrev room_ok (M N : Bdy) (W : Nat) : Prop := N.2.2.2.2.frames + 1 ≤ M.2.2.2.2.frames ∧ W + (N.2.2.1 + 11) + N.2.2.2.2.locals ≤ M.2.2.2.2.locals ∧ N.2.2.2.2.cells = 0 ∧ N.2.2.2.2.slots = 0
abbrev full_ok (M : Bdy) (k n : Nat) : Prop := k ≤ M.2.2.2.2.cells ∧ n ≤ M.2.2.2.2.slots
theorem room_ok.al (h : room_ok M N W) (f : full_ok M k n) : room_al M N W k n := ⟨h.1, h.2.1, by rw [h.2.2.1]; exact f.1, by rw [h.2.2.2]; exact f.2⟩
abbrev code_w (N : Bdy) : Prop := Jvm.Cond.code N.1 N.2.1 N.2.2.1 N.2.2.2.1 ∈ tables_1 ∧ Jvm.Cond.initialized N.1.cls ∈ tables_1 ∧ (N.1.cls ≠ "java/lang/invoke/MethodHandle" ∧ N.1.cls ≠ "java/lang/invoke/VarHandle")
def arity (N : Bdy) (na : Nat) : Prop := ∃ ps r, parseMethodDescriptor N.1.desc = some ⟨ps, r⟩ ∧ na = ps.length
theorem arity.len {na : Nat} (h : arity N na) (e : as.length = na) : ∀ sig, parseMethodDescriptor N.1.desc = some sig → as.length = sig.parameters.length := by
  obtain ⟨ps, r, h1, h2⟩ := h
  exact lenOf h1 (e.trans h2)
theorem after_call {v : Option Value} {p : Program} {e : Env} {s : State} {m : MethodId} {args : Array Value} {below : List Frame} {meth : Method} {c : Code} {T T0 : State} {locs : List Loc} {L : Array Slot} {QN : Option Value → AH → Prop} {Lc : List Loc}
    (hw : Ok C) (hx : p.tables.exec = Jvm.exec) (hby : c.code = M.2.1) (hml : c.maxLocals = M.2.2.1) (hret : meth.sig.returnType = M.2.2.2.1) (hnm : meth.name = M.1.name) (hown : s.vm.findClass M.1.cls = some m.cls) (hZ : C.2.1.Warmed39 s.vm) (hf : Fits P L) (hsz : L.size = M.2.2.1) (hF : Fr C.2.2.1 locs)
    (X : Stand p C.1 e M.2.2.2.2 s m args below meth c T (locs ++ Lc) (k + N.2.2.2.2.cells) (n + N.2.2.2.2.slots)) (hQ : Fr C.2.2.1 Lc ∧ ∃ G', Rep C.2.1 C.2.2.1 T.heap G' ∧ QN v G')
    (h : ∀ v G', QN v G' → Runs C M (k + N.2.2.2.2.cells) (n + N.2.2.2.2.slots) (pc + 3) P (v.toList ++ S') G' Q)
    (st : ∀ t, Steps p.tables e below (T.setTop (mkF m (pc + 3) L (v.toList ++ S'))) t → Steps p.tables e below (T0.setTop (mkF m pc L S)) t) :
    ∃ (T' : State) (locs' : List Loc) (k' n' : Nat) (r : Option Value) (G' : AH), Stand p C.1 e M.2.2.2.2 s m args below meth c T' locs' k' n' ∧ k' ≤ M.2.2.2.2.cells ∧ n' ≤ M.2.2.2.2.slots ∧ Rep C.2.1 C.2.2.1 T'.heap G' ∧ Fr C.2.2.1 locs' ∧ Q r G' ∧
      (M.2.2.2.1 = none → r = none) ∧
      ∀ fs : List Frame, (∀ (f : JFrame) (acts : List Action), f.method = m → f.locked = none → f.entered = [] → (doReturn e (T'.setTop f) acts r).1 = T'.setFrames fs) → Steps p.tables e below (T0.setTop (mkF m pc L S)) (T'.setFrames fs) := by
  obtain ⟨f1, G', f2, f3⟩ := hQ
  obtain ⟨T', locs', k', n', r, G'', g1, g2, g3, g4, g5, g6, g7, g8⟩ := h v G' f3 hw p e s m args below meth c T _ L hx hby hml hret hnm hown hZ hf hsz X f2 (Fr.app hF f1)
  exact ⟨T', locs', k', n', r, G'', g1, g2, g3, g4, g5, g6, g7, fun fs hr => st _ (g8 fs hr)⟩
theorem Runs.callS {QN : Option Value → AH → Prop} (d : DAt M pc (.invokestatic idx) 3 q) (wl : Jvm.Cond.methodLink M.1.cls idx N.1 ∈ tables_1) (wt : Jvm.Cond.static N.1 ∈ tables_1) (wc : code_w N) (ar : arity N as.length) (hr0 : room_ok M N W) (hfull : full_ok M k n) (hS : S = as.reverse ++ S') (hW : (S'.map fun v => v.category).sum = W)
    (hN : Pays C N as G QN) (h : ∀ v G', QN v G' → Runs C M k n q P (v.toList ++ S') G' Q) : Runs C M k n pc P S G Q := by
  intro hw p e s m args below meth c T locs L hx hby hml hret hnm hown hZ hf hsz X hR hF
  have hq := d.2
  subst hq hS
  have hr := hr0.al hfull
  obtain ⟨_, _, ⟨T1, L1, k1, n1⟩, -, X1, ⟨Lc, hQ, l1, y1, z1⟩, st⟩ := Jvm.LawKit.callS X hx (y := N.1) hown (mvT hZ (hw _ wl)) (mvT hZ (hw _ wt)) (mvT hZ (hw _ wc.2.1)) (mvT hZ (hw _ wc.1)) wc.2.2 (backOf (W := W) (Q := fun v h L => Fr C.2.2.1 L ∧ ∃ G', Rep C.2.1 C.2.2.1 h G' ∧ QN v G') (hN hw T.heap hR []) hZ (hw _ wc.1) (hw _ wc.2.1) hr.1 hr.2.1) (g := mkF m pc L (as.reverse ++ S')) rfl (by rw [hml]; exact hsz) (argsL := as) (rest := S') (ar.len rfl) rfl (by show 2 * 0 + _ ≤ _; omega) (hb hby d.1) (fun _ _ => ⟨rfl, rfl, hr.2.2.1, hr.2.2.2⟩)
  dsimp only [Pt.U, Pt.locs, Pt.cells, Pt.slots] at X1 l1 y1 z1 st hQ
  subst l1 y1 z1
  exact after_call hw hx hby hml hret hnm hown hZ hf hsz hF X1 hQ (by rw [hr0.2.2.1, hr0.2.2.2]; exact h) (fun t u => st t u)
theorem Runs.callV {QN : Option Value → AH → Prop} (d : DAt M pc (.invokevirtual idx) 3 q) (wl : Jvm.Cond.methodLink M.1.cls idx N.1 ∈ tables_1) (wd : Jvm.Cond.declares N.1 ∈ tables_1) (wi : Jvm.Cond.instanceMethod N.1 ∈ tables_1) (ws : Jvm.Cond.selects K.1 N.1 N.1 ∈ tables_1) (wc : code_w N) (ar : arity N as.length) (hr0 : room_ok M N W) (hfull : full_ok M k n) (hS : S = as.reverse ++ .ref a :: S') (hW : (S'.map fun v => v.category).sum = W)
    (hN : Pays C N (.ref a :: as) (top, (a, qq, ob) :: H) QN) (h : ∀ v G', QN v G' → Runs C M k n q P (v.toList ++ S') G' Q) : Runs C M k n pc P S (top, (a, qq, ob) :: H) Q := by
  intro hw p e s m args below meth c T locs L hx hby hml hret hnm hown hZ hf hsz X hR hF
  have hq := d.2
  subst hq hS
  have hr := hr0.al hfull
  obtain ⟨cB, kB, u1, -, u3⟩ := isOf hZ rfl hR.objs.2.2.1
  obtain ⟨_, _, ⟨T1, L1, k1, n1⟩, -, X1, ⟨Lc, hQ, l1, y1, z1⟩, st⟩ := X.virtualBack hx (y := N.1) (z := N.1) hown (mvT hZ (hw _ wl)) (mvT hZ (hw _ wd)) (notFace_of_selects (args := #[]) (mvT hZ (hw _ ws))) (mvT hZ (hw _ ws)) (mvT hZ (hw _ wi)) wc.2.2 (backOf (W := W) (Q := fun v h L => Fr C.2.2.1 L ∧ ∃ G', Rep C.2.1 C.2.2.1 h G' ∧ QN v G') (hN hw T.heap hR []) hZ (hw _ wc.1) (hw _ wc.2.1) hr.1 hr.2.1) u1 u3 (g := mkF m pc L (as.reverse ++ .ref a :: S')) rfl (by rw [hml]; exact hsz) (Steps.refl _) (argsL := as) (rest := S') (ar.len rfl) rfl (by show 2 * 0 + _ ≤ _; omega) (hb hby d.1) (fun _ _ => ⟨rfl, rfl, hr.2.2.1, hr.2.2.2⟩)
  dsimp only [Pt.U, Pt.locs, Pt.cells, Pt.slots] at X1 l1 y1 z1 st hQ
  subst l1 y1 z1
  exact after_call hw hx hby hml hret hnm hown hZ hf hsz hF X1 hQ (by rw [hr0.2.2.1, hr0.2.2.2]; exact h) (fun t u => st.trans u)
theorem Runs.callP {QN : Option Value → AH → Prop} (d : DAt M pc (.invokevirtual idx) 3 q) (wl : Jvm.Cond.methodLink M.1.cls idx N.1 ∈ tables_1) (wi : Jvm.Cond.instanceMethod N.1 ∈ tables_1) (wp : Jvm.Cond.privateMethod N.1 ∈ tables_1) (wK : N.1.cls = K.1) (wc : code_w N) (ar : arity N as.length) (hr0 : room_ok M N W) (hfull : full_ok M k n) (hS : S = as.reverse ++ .ref a :: S') (hW : (S'.map fun v => v.category).sum = W)
    (hN : Pays C N (.ref a :: as) (top, (a, qq, ob) :: H) QN) (h : ∀ v G', QN v G' → Runs C M k n q P (v.toList ++ S') G' Q) : Runs C M k n pc P S (top, (a, qq, ob) :: H) Q := by
  intro hw p e s m args below meth c T locs L hx hby hml hret hnm hown hZ hf hsz X hR hF
  have hq := d.2
  subst hq hS
  have hr := hr0.al hfull
  obtain ⟨cl, u1, u2⟩ := hR.objs.2.2.1.cell
  have hpr : s.PrivateAt N.1 := Cond.privateMethod_at (mvP hZ (hw _ wp) (args := #[]))
  obtain ⟨c2, k2, i1, i2, i3, i4, -⟩ := Cond.instantiable_spec (mvT (args := args) hZ (hw _ kI))
  have hsel : (Jvm.Cond.selects N.1.cls N.1 N.1).before args s = true := Stand.selects_self_of_private (by rw [wK]; exact i1) i2 (by simp at i4; exact i4.1) hpr (mvT hZ (hw _ wi)) wc.2.2
  obtain ⟨_, _, ⟨T1, L1, k1, n1⟩, -, X1, ⟨Lc, hQ, l1, y1, z1⟩, st⟩ := X.privateBack hx (y := N.1) hown (mvT hZ (hw _ wl)) (mvT hZ (hw _ wi)) hsel hpr (mvT hZ (hw _ wc.1)) wc.2.2 (backOf (W := W) (Q := fun v h L => Fr C.2.2.1 L ∧ ∃ G', Rep C.2.1 C.2.2.1 h G' ∧ QN v G') (hN hw T.heap hR []) hZ (hw _ wc.1) (hw _ wc.2.1) hr.1 hr.2.1) (g := mkF m pc L (as.reverse ++ .ref a :: S')) rfl (by rw [hml]; exact hsz) (Steps.refl _) (a := a) u1 u2 (argsL := as) (rest := S') (ar.len rfl) rfl (by show 2 * 0 + _ ≤ _; omega) (hb hby d.1) (fun _ _ => ⟨rfl, rfl, hr.2.2.1, hr.2.2.2⟩)
  dsimp only [Pt.U, Pt.locs, Pt.cells, Pt.slots] at X1 l1 y1 z1 st hQ
  subst l1 y1 z1
  exact after_call hw hx hby hml hret hnm hown hZ hf hsz hF X1 hQ (by rw [hr0.2.2.1, hr0.2.2.2]; exact h) (fun t u => st.trans u)
theorem Runs.callI {QN : Option Value → AH → Prop} (d : DAt M pc (.invokespecial idx) 3 q) (hi : N.1.name = "<init>") (hn : N.2.2.2.1 = none) (wl : Jvm.Cond.methodLink M.1.cls idx N.1 ∈ tables_1) (wi : Jvm.Cond.instanceMethod N.1 ∈ tables_1) (wc : code_w N) (ar : arity N as.length) (hr : room_al M N W k n) (hS : S = as.reverse ++ .ref a :: S') (hW : (S'.map fun v => v.category).sum = W) {k' n' : Nat} (hk' : k + N.2.2.2.2.cells = k') (hn' : n + N.2.2.2.2.slots = n')
    (hN : Pays C N (.ref a :: as) G QN) (h : ∀ v G', QN v G' → Runs C M k' n' q P (v.toList ++ S') G' Q) : Runs C M k n pc P S G Q := by
  intro hw p e s m args below meth c T locs L hx hby hml hret hnm hown hZ hf hsz X hR hF
  have hq := d.2
  subst hq hS hk' hn'
  have wc1 := hw _ wc.1
  obtain ⟨_, _, ⟨T1, L1, k1, n1⟩, -, X1, ⟨Lc, hQ, l1, y1, z1⟩, st⟩ := X.specialBack hx (y := N.1) hi hown (mvT hZ (hw _ wl)) (mvT hZ (hw _ wi)) (bytes := N.2.1) (maxL := N.2.2.1) (by have := mvT (args := args) hZ wc1; rw [hn] at this; exact this) wc.2.2 (backOf (W := W) (Q := fun v h L => Fr C.2.2.1 L ∧ ∃ G', Rep C.2.1 C.2.2.1 h G' ∧ QN v G') (hN hw T.heap hR []) hZ wc1 (hw _ wc.2.1) hr.1 hr.2.1) (g := mkF m pc L (as.reverse ++ .ref a :: S')) rfl (by rw [hml]; exact hsz) (Steps.refl _) (a := a) (argsL := as) (rest := S') (ar.len rfl) rfl (by show 2 * 0 + _ ≤ _; omega) (hb hby d.1) (fun _ _ => ⟨rfl, rfl, hr.2.2.1, hr.2.2.2⟩)
  dsimp only [Pt.U, Pt.locs, Pt.cells, Pt.slots] at X1 l1 y1 z1 st hQ
  subst l1 y1 z1
  exact after_call hw hx hby hml hret hnm hown hZ hf hsz hF X1 hQ h (fun t u => st.trans u)
/-- the plain form of a contract: one answer, one heap -/
abbrev Ans (r : Option Value) (G1 : AH) : Option Value → AH → Prop := fun v G' => v = r ∧ G' = G1
theorem ans1 {x : Value} {k n : Nat} (h : Runs C M k n pc P (x :: S) G1 Q) : ∀ v G', Ans (some x) G1 v G' → Runs C M k n pc P (v.toList ++ S) G' Q := by
  rintro v G' ⟨rfl, rfl⟩; exact h
theorem ans0 {k n : Nat} (h : Runs C M k n pc P S G1 Q) : ∀ v G', Ans none G1 v G' → Runs C M k n pc P (v.toList ++ S) G' Q := by
  rintro v G' ⟨rfl, rfl⟩; exact h
end Calls
theorem pnK : plainName "CausalStable" = true := by first | (simp [plainName, overriddenIn]; done) | decide +kernel
theorem pnL : plainName "CausalStableL2" = true := by first | (simp [plainName, overriddenIn]; done) | decide +kernel
theorem w0 : (Jvm.Cond.classLink "CausalStableL2" (7 : Nat) "CausalStable") ∈ tables_1 := mem1 0 rfl
theorem w3 : (Jvm.Cond.methodLink "CausalStableL2" (9 : Nat) ({ cls := "CausalStable", name := "<init>", desc := "(II)V" } : Jvm.MethodName)) ∈ tables_1 := mem1 3 rfl
theorem w4 : (Jvm.Cond.instanceMethod ({ cls := "CausalStable", name := "<init>", desc := "(II)V" } : Jvm.MethodName)) ∈ tables_1 := mem1 4 rfl
theorem w6 : (Jvm.Cond.methodLink "CausalStable" (1 : Nat) ({ cls := "java/lang/Object", name := "<init>", desc := "()V" } : Jvm.MethodName)) ∈ tables_1 := mem1 6 rfl
theorem w7 : (Jvm.Cond.instanceMethod ({ cls := "java/lang/Object", name := "<init>", desc := "()V" } : Jvm.MethodName)) ∈ tables_1 := mem1 7 rfl
theorem w8 : (Jvm.Cond.code ({ cls := "java/lang/Object", name := "<init>", desc := "()V" } : Jvm.MethodName) object_method_1_code (1 : Nat) (Option.none : Option Jvm.ClassFile.FieldType)) ∈ tables_1 := mem1 8 rfl
theorem w9 : (Jvm.Cond.arrayClass Jvm.ClassFile.FieldType.int) ∈ tables_1 := mem1 9 rfl
theorem w10 : (Jvm.Cond.fieldLink "CausalStable" (7 : Nat) "CausalStable" "sentCount" "[I") ∈ tables_1 := mem1 10 rfl
theorem w11 : (Jvm.Cond.lays "CausalStable" "CausalStable" "sentCount" "[I") ∈ tables_1 := mem1 11 rfl
theorem w12 : (Jvm.Cond.arrayClass Jvm.ClassFile.FieldType.boolean) ∈ tables_1 := mem1 12 rfl
theorem w13 : (Jvm.Cond.fieldLink "CausalStable" (13 : Nat) "CausalStable" "crashedFlag" "[Z") ∈ tables_1 := mem1 13 rfl
theorem w14 : (Jvm.Cond.lays "CausalStable" "CausalStable" "crashedFlag" "[Z") ∈ tables_1 := mem1 14 rfl
theorem w15 : (Jvm.Cond.fieldLink "CausalStable" (17 : Nat) "CausalStable" "del" "[I") ∈ tables_1 := mem1 15 rfl
theorem w16 : (Jvm.Cond.lays "CausalStable" "CausalStable" "del" "[I") ∈ tables_1 := mem1 16 rfl
theorem w17 : (Jvm.Cond.fieldLink "CausalStable" (20 : Nat) "CausalStable" "msgState" "[I") ∈ tables_1 := mem1 17 rfl
theorem w18 : (Jvm.Cond.lays "CausalStable" "CausalStable" "msgState" "[I") ∈ tables_1 := mem1 18 rfl
theorem w19 : (Jvm.Cond.fieldLink "CausalStable" (23 : Nat) "CausalStable" "stampArr" "[I") ∈ tables_1 := mem1 19 rfl
theorem w20 : (Jvm.Cond.lays "CausalStable" "CausalStable" "stampArr" "[I") ∈ tables_1 := mem1 20 rfl
theorem w21 : (Jvm.Cond.fieldLink "CausalStable" (26 : Nat) "CausalStable" "copyArr" "[I") ∈ tables_1 := mem1 21 rfl
theorem w22 : (Jvm.Cond.lays "CausalStable" "CausalStable" "copyArr" "[I") ∈ tables_1 := mem1 22 rfl
theorem w23 : (Jvm.Cond.fieldLink "CausalStable" (29 : Nat) "CausalStable" "known" "[I") ∈ tables_1 := mem1 23 rfl
theorem w24 : (Jvm.Cond.lays "CausalStable" "CausalStable" "known" "[I") ∈ tables_1 := mem1 24 rfl
theorem w25 : (Jvm.Cond.fieldLink "CausalStable" (32 : Nat) "CausalStable" "list" "[I") ∈ tables_1 := mem1 25 rfl
theorem w26 : (Jvm.Cond.lays "CausalStable" "CausalStable" "list" "[I") ∈ tables_1 := mem1 26 rfl
theorem w27 : (Jvm.Cond.fieldLink "CausalStable" (35 : Nat) "CausalStable" "listLen" "[I") ∈ tables_1 := mem1 27 rfl
theorem w28 : (Jvm.Cond.lays "CausalStable" "CausalStable" "listLen" "[I") ∈ tables_1 := mem1 28 rfl
theorem w29 : (Jvm.Cond.fieldLink "CausalStable" (38 : Nat) "CausalStable" "n" "I") ∈ tables_1 := mem1 29 rfl
theorem w30 : (Jvm.Cond.lays "CausalStable" "CausalStable" "n" "I") ∈ tables_1 := mem1 30 rfl
theorem w31 : (Jvm.Cond.fieldLink "CausalStable" (42 : Nat) "CausalStable" "cap" "I") ∈ tables_1 := mem1 31 rfl
theorem w32 : (Jvm.Cond.lays "CausalStable" "CausalStable" "cap" "I") ∈ tables_1 := mem1 32 rfl
theorem w33 : (Jvm.Cond.methodLink "CausalStableL2" (12 : Nat) ({ cls := "CausalStable", name := "broadcast", desc := "(I)I" } : Jvm.MethodName)) ∈ tables_1 := mem1 33 rfl
theorem w34 : (Jvm.Cond.declares ({ cls := "CausalStable", name := "broadcast", desc := "(I)I" } : Jvm.MethodName)) ∈ tables_1 := mem1 34 rfl
theorem w35 : (Jvm.Cond.instanceMethod ({ cls := "CausalStable", name := "broadcast", desc := "(I)I" } : Jvm.MethodName)) ∈ tables_1 := mem1 35 rfl
theorem w36 : (Jvm.Cond.selects "CausalStable" ({ cls := "CausalStable", name := "broadcast", desc := "(I)I" } : Jvm.MethodName) ({ cls := "CausalStable", name := "broadcast", desc := "(I)I" } : Jvm.MethodName)) ∈ tables_1 := mem1 36 rfl
theorem w38 : (Jvm.Cond.methodLink "CausalStable" (68 : Nat) ({ cls := "CausalStable", name := "validProc", desc := "(I)Z" } : Jvm.MethodName)) ∈ tables_1 := mem1 38 rfl
theorem w39 : (Jvm.Cond.instanceMethod ({ cls := "CausalStable", name := "validProc", desc := "(I)Z" } : Jvm.MethodName)) ∈ tables_1 := mem1 39 rfl
theorem w40 : (Jvm.Cond.privateMethod ({ cls := "CausalStable", name := "validProc", desc := "(I)Z" } : Jvm.MethodName)) ∈ tables_1 := mem1 40 rfl
theorem w42 : (Jvm.Cond.methodLink "CausalStableL2" (16 : Nat) ({ cls := "CausalStable", name := "sent", desc := "(I)I" } : Jvm.MethodName)) ∈ tables_1 := mem1 42 rfl
theorem w43 : (Jvm.Cond.declares ({ cls := "CausalStable", name := "sent", desc := "(I)I" } : Jvm.MethodName)) ∈ tables_1 := mem1 43 rfl
theorem w44 : (Jvm.Cond.instanceMethod ({ cls := "CausalStable", name := "sent", desc := "(I)I" } : Jvm.MethodName)) ∈ tables_1 := mem1 44 rfl
theorem w45 : (Jvm.Cond.selects "CausalStable" ({ cls := "CausalStable", name := "sent", desc := "(I)I" } : Jvm.MethodName) ({ cls := "CausalStable", name := "sent", desc := "(I)I" } : Jvm.MethodName)) ∈ tables_1 := mem1 45 rfl
theorem w47 : (Jvm.Cond.methodLink "CausalStableL2" (19 : Nat) ({ cls := "CausalStable", name := "stamp", desc := "(III)I" } : Jvm.MethodName)) ∈ tables_1 := mem1 47 rfl
theorem w48 : (Jvm.Cond.declares ({ cls := "CausalStable", name := "stamp", desc := "(III)I" } : Jvm.MethodName)) ∈ tables_1 := mem1 48 rfl
theorem w49 : (Jvm.Cond.instanceMethod ({ cls := "CausalStable", name := "stamp", desc := "(III)I" } : Jvm.MethodName)) ∈ tables_1 := mem1 49 rfl
theorem w50 : (Jvm.Cond.selects "CausalStable" ({ cls := "CausalStable", name := "stamp", desc := "(III)I" } : Jvm.MethodName) ({ cls := "CausalStable", name := "stamp", desc := "(III)I" } : Jvm.MethodName)) ∈ tables_1 := mem1 50 rfl
theorem w52 : (Jvm.Cond.methodLink "CausalStable" (52 : Nat) ({ cls := "CausalStable", name := "exists", desc := "(II)Z" } : Jvm.MethodName)) ∈ tables_1 := mem1 52 rfl
theorem w53 : (Jvm.Cond.instanceMethod ({ cls := "CausalStable", name := "exists", desc := "(II)Z" } : Jvm.MethodName)) ∈ tables_1 := mem1 53 rfl
theorem w54 : (Jvm.Cond.privateMethod ({ cls := "CausalStable", name := "exists", desc := "(II)Z" } : Jvm.MethodName)) ∈ tables_1 := mem1 54 rfl
theorem w56 : (Jvm.Cond.methodLink "CausalStableL2" (23 : Nat) ({ cls := "CausalStable", name := "copies", desc := "(III)I" } : Jvm.MethodName)) ∈ tables_1 := mem1 56 rfl
theorem w57 : (Jvm.Cond.declares ({ cls := "CausalStable", name := "copies", desc := "(III)I" } : Jvm.MethodName)) ∈ tables_1 := mem1 57 rfl
theorem w58 : (Jvm.Cond.instanceMethod ({ cls := "CausalStable", name := "copies", desc := "(III)I" } : Jvm.MethodName)) ∈ tables_1 := mem1 58 rfl
theorem w59 : (Jvm.Cond.selects "CausalStable" ({ cls := "CausalStable", name := "copies", desc := "(III)I" } : Jvm.MethodName) ({ cls := "CausalStable", name := "copies", desc := "(III)I" } : Jvm.MethodName)) ∈ tables_1 := mem1 59 rfl
theorem w61 : (Jvm.Cond.methodLink "CausalStableL2" (26 : Nat) ({ cls := "CausalStable", name := "state", desc := "(III)I" } : Jvm.MethodName)) ∈ tables_1 := mem1 61 rfl
theorem w62 : (Jvm.Cond.declares ({ cls := "CausalStable", name := "state", desc := "(III)I" } : Jvm.MethodName)) ∈ tables_1 := mem1 62 rfl
theorem w63 : (Jvm.Cond.instanceMethod ({ cls := "CausalStable", name := "state", desc := "(III)I" } : Jvm.MethodName)) ∈ tables_1 := mem1 63 rfl
theorem w64 : (Jvm.Cond.selects "CausalStable" ({ cls := "CausalStable", name := "state", desc := "(III)I" } : Jvm.MethodName) ({ cls := "CausalStable", name := "state", desc := "(III)I" } : Jvm.MethodName)) ∈ tables_1 := mem1 64 rfl
theorem w66 : (Jvm.Cond.methodLink "CausalStableL2" (29 : Nat) ({ cls := "CausalStable", name := "delivered", desc := "(II)I" } : Jvm.MethodName)) ∈ tables_1 := mem1 66 rfl
theorem w67 : (Jvm.Cond.declares ({ cls := "CausalStable", name := "delivered", desc := "(II)I" } : Jvm.MethodName)) ∈ tables_1 := mem1 67 rfl
theorem w68 : (Jvm.Cond.instanceMethod ({ cls := "CausalStable", name := "delivered", desc := "(II)I" } : Jvm.MethodName)) ∈ tables_1 := mem1 68 rfl
theorem w69 : (Jvm.Cond.selects "CausalStable" ({ cls := "CausalStable", name := "delivered", desc := "(II)I" } : Jvm.MethodName) ({ cls := "CausalStable", name := "delivered", desc := "(II)I" } : Jvm.MethodName)) ∈ tables_1 := mem1 69 rfl
theorem w71 : (Jvm.Cond.methodLink "CausalStableL2" (33 : Nat) ({ cls := "CausalStable", name := "deliveredAt", desc := "(II)I" } : Jvm.MethodName)) ∈ tables_1 := mem1 71 rfl
theorem w72 : (Jvm.Cond.declares ({ cls := "CausalStable", name := "deliveredAt", desc := "(II)I" } : Jvm.MethodName)) ∈ tables_1 := mem1 72 rfl
theorem w73 : (Jvm.Cond.instanceMethod ({ cls := "CausalStable", name := "deliveredAt", desc := "(II)I" } : Jvm.MethodName)) ∈ tables_1 := mem1 73 rfl
theorem w74 : (Jvm.Cond.selects "CausalStable" ({ cls := "CausalStable", name := "deliveredAt", desc := "(II)I" } : Jvm.MethodName) ({ cls := "CausalStable", name := "deliveredAt", desc := "(II)I" } : Jvm.MethodName)) ∈ tables_1 := mem1 74 rfl
theorem w76 : (Jvm.Cond.methodLink "CausalStableL2" (36 : Nat) ({ cls := "CausalStable", name := "known", desc := "(III)I" } : Jvm.MethodName)) ∈ tables_1 := mem1 76 rfl
theorem w77 : (Jvm.Cond.declares ({ cls := "CausalStable", name := "known", desc := "(III)I" } : Jvm.MethodName)) ∈ tables_1 := mem1 77 rfl
theorem w78 : (Jvm.Cond.instanceMethod ({ cls := "CausalStable", name := "known", desc := "(III)I" } : Jvm.MethodName)) ∈ tables_1 := mem1 78 rfl
theorem w79 : (Jvm.Cond.selects "CausalStable" ({ cls := "CausalStable", name := "known", desc := "(III)I" } : Jvm.MethodName) ({ cls := "CausalStable", name := "known", desc := "(III)I" } : Jvm.MethodName)) ∈ tables_1 := mem1 79 rfl
theorem w81 : (Jvm.Cond.methodLink "CausalStable" (56 : Nat) ({ cls := "CausalStable", name := "msgIndex", desc := "(II)I" } : Jvm.MethodName)) ∈ tables_1 := mem1 81 rfl
theorem w82 : (Jvm.Cond.instanceMethod ({ cls := "CausalStable", name := "msgIndex", desc := "(II)I" } : Jvm.MethodName)) ∈ tables_1 := mem1 82 rfl
theorem w83 : (Jvm.Cond.privateMethod ({ cls := "CausalStable", name := "msgIndex", desc := "(II)I" } : Jvm.MethodName)) ∈ tables_1 := mem1 83 rfl
theorem w85 : (Jvm.Cond.methodLink "CausalStable" (64 : Nat) ({ cls := "CausalStable", name := "deliverAt", desc := "(III)V" } : Jvm.MethodName)) ∈ tables_1 := mem1 85 rfl
theorem w86 : (Jvm.Cond.instanceMethod ({ cls := "CausalStable", name := "deliverAt", desc := "(III)V" } : Jvm.MethodName)) ∈ tables_1 := mem1 86 rfl
theorem w87 : (Jvm.Cond.privateMethod ({ cls := "CausalStable", name := "deliverAt", desc := "(III)V" } : Jvm.MethodName)) ∈ tables_1 := mem1 87 rfl
theorem w89 : (Jvm.Cond.methodLink "CausalStable" (45 : Nat) ({ cls := "CausalStable", name := "stateIndex", desc := "(III)I" } : Jvm.MethodName)) ∈ tables_1 := mem1 89 rfl
theorem w90 : (Jvm.Cond.instanceMethod ({ cls := "CausalStable", name := "stateIndex", desc := "(III)I" } : Jvm.MethodName)) ∈ tables_1 := mem1 90 rfl
theorem w91 : (Jvm.Cond.privateMethod ({ cls := "CausalStable", name := "stateIndex", desc := "(III)I" } : Jvm.MethodName)) ∈ tables_1 := mem1 91 rfl
theorem w93 : (Jvm.Cond.methodLink "CausalStable" (49 : Nat) ({ cls := "CausalStable", name := "knownIndex", desc := "(III)I" } : Jvm.MethodName)) ∈ tables_1 := mem1 93 rfl
theorem w94 : (Jvm.Cond.instanceMethod ({ cls := "CausalStable", name := "knownIndex", desc := "(III)I" } : Jvm.MethodName)) ∈ tables_1 := mem1 94 rfl
theorem w95 : (Jvm.Cond.privateMethod ({ cls := "CausalStable", name := "knownIndex", desc := "(III)I" } : Jvm.MethodName)) ∈ tables_1 := mem1 95 rfl
theorem w97 : (Jvm.Cond.methodLink "CausalStable" (72 : Nat) ({ cls := "CausalStable", name := "copyIndex", desc := "(III)I" } : Jvm.MethodName)) ∈ tables_1 := mem1 97 rfl
theorem w98 : (Jvm.Cond.instanceMethod ({ cls := "CausalStable", name := "copyIndex", desc := "(III)I" } : Jvm.MethodName)) ∈ tables_1 := mem1 98 rfl
theorem w99 : (Jvm.Cond.privateMethod ({ cls := "CausalStable", name := "copyIndex", desc := "(III)I" } : Jvm.MethodName)) ∈ tables_1 := mem1 99 rfl
theorem fS_0 : K.2.1[0]? = some ("n", "I") := rfl
theorem fS_1 : K.2.1[1]? = some ("cap", "I") := rfl
theorem fA_0 : K.2.2[0]? = some ("sentCount", .int, (8 : Int32)) := rfl
theorem fA_1 : K.2.2[1]? = some ("crashedFlag", .boolean, (8 : Int32)) := rfl
theorem fA_2 : K.2.2[2]? = some ("del", .int, (64 : Int32)) := rfl
theorem fA_3 : K.2.2[3]? = some ("msgState", .int, (512 : Int32)) := rfl
theorem fA_4 : K.2.2[4]? = some ("stampArr", .int, (512 : Int32)) := rfl
theorem fA_5 : K.2.2[5]? = some ("copyArr", .int, (512 : Int32)) := rfl
theorem fA_6 : K.2.2[6]? = some ("known", .int, (512 : Int32)) := rfl
theorem fA_7 : K.2.2[7]? = some ("list", .int, (512 : Int32)) := rfl
theorem fA_8 : K.2.2[8]? = some ("listLen", .int, (8 : Int32)) := rfl
theorem cb_m3 : (Int8.ofInt (-3)).toInt32 = (-3 : Int32) := by decide
theorem cb_m2 : (Int8.ofInt (-2)).toInt32 = (-2 : Int32) := by decide
theorem cb_8 : (Int8.ofInt 8).toInt32 = (8 : Int32) := by decide
theorem cb_16 : (Int8.ofInt 16).toInt32 = (16 : Int32) := by decide
theorem cb_64 : (Int8.ofInt 64).toInt32 = (64 : Int32) := by decide
theorem ci_m1 : Int32.ofInt (-1) = (-1 : Int32) := by decide
theorem ci_0 : Int32.ofInt 0 = (0 : Int32) := by decide
theorem ci_1 : Int32.ofInt 1 = (1 : Int32) := by decide
theorem ci_2 : Int32.ofInt 2 = (2 : Int32) := by decide
theorem cs_512 : (Int16.ofInt 512).toInt32 = (512 : Int32) := by decide
def B1 : Bdy := ((⟨"CausalStable", "<init>", "(II)V"⟩ : MethodName), prog_1_method_1_code, 5, none, ({ frames := 1, cells := 9, slots := 2648, locals := 12 } : Room))
theorem d1_0 : DAt B1 0 (.aload_n 0) 1 1 := ⟨by decide +kernel, rfl⟩
theorem d1_1 : DAt B1 1 (.invokespecial 1) 3 4 := ⟨by decide +kernel, rfl⟩
theorem d1_4 : DAt B1 4 (.aload_n 0) 1 5 := ⟨by decide +kernel, rfl⟩
theorem d1_5 : DAt B1 5 (.bipush 8) 2 7 := ⟨by decide +kernel, rfl⟩
theorem d1_7 : DAt B1 7 (.newarray .int) 2 9 := ⟨by decide +kernel, rfl⟩
theorem d1_9 : DAt B1 9 (.putfield 7) 3 12 := ⟨by decide +kernel, rfl⟩
theorem d1_12 : DAt B1 12 (.aload_n 0) 1 13 := ⟨by decide +kernel, rfl⟩
theorem d1_13 : DAt B1 13 (.bipush 8) 2 15 := ⟨by decide +kernel, rfl⟩
theorem d1_15 : DAt B1 15 (.newarray .boolean) 2 17 := ⟨by decide +kernel, rfl⟩
theorem d1_17 : DAt B1 17 (.putfield 13) 3 20 := ⟨by decide +kernel, rfl⟩
theorem d1_20 : DAt B1 20 (.aload_n 0) 1 21 := ⟨by decide +kernel, rfl⟩
theorem d1_21 : DAt B1 21 (.bipush 64) 2 23 := ⟨by decide +kernel, rfl⟩
theorem d1_23 : DAt B1 23 (.newarray .int) 2 25 := ⟨by decide +kernel, rfl⟩
theorem d1_25 : DAt B1 25 (.putfield 17) 3 28 := ⟨by decide +kernel, rfl⟩
theorem d1_28 : DAt B1 28 (.aload_n 0) 1 29 := ⟨by decide +kernel, rfl⟩
theorem d1_29 : DAt B1 29 (.sipush 512) 3 32 := ⟨by decide +kernel, rfl⟩
theorem d1_32 : DAt B1 32 (.newarray .int) 2 34 := ⟨by decide +kernel, rfl⟩
theorem d1_34 : DAt B1 34 (.putfield 20) 3 37 := ⟨by decide +kernel, rfl⟩
theorem d1_37 : DAt B1 37 (.aload_n 0) 1 38 := ⟨by decide +kernel, rfl⟩
theorem d1_38 : DAt B1 38 (.sipush 512) 3 41 := ⟨by decide +kernel, rfl⟩
theorem d1_41 : DAt B1 41 (.newarray .int) 2 43 := ⟨by decide +kernel, rfl⟩
theorem d1_43 : DAt B1 43 (.putfield 23) 3 46 := ⟨by decide +kernel, rfl⟩
theorem d1_46 : DAt B1 46 (.aload_n 0) 1 47 := ⟨by decide +kernel, rfl⟩
theorem d1_47 : DAt B1 47 (.sipush 512) 3 50 := ⟨by decide +kernel, rfl⟩
theorem d1_50 : DAt B1 50 (.newarray .int) 2 52 := ⟨by decide +kernel, rfl⟩
theorem d1_52 : DAt B1 52 (.putfield 26) 3 55 := ⟨by decide +kernel, rfl⟩
theorem d1_55 : DAt B1 55 (.aload_n 0) 1 56 := ⟨by decide +kernel, rfl⟩
theorem d1_56 : DAt B1 56 (.sipush 512) 3 59 := ⟨by decide +kernel, rfl⟩
theorem d1_59 : DAt B1 59 (.newarray .int) 2 61 := ⟨by decide +kernel, rfl⟩
theorem d1_61 : DAt B1 61 (.putfield 29) 3 64 := ⟨by decide +kernel, rfl⟩
theorem d1_64 : DAt B1 64 (.aload_n 0) 1 65 := ⟨by decide +kernel, rfl⟩
theorem d1_65 : DAt B1 65 (.sipush 512) 3 68 := ⟨by decide +kernel, rfl⟩
theorem d1_68 : DAt B1 68 (.newarray .int) 2 70 := ⟨by decide +kernel, rfl⟩
theorem d1_70 : DAt B1 70 (.putfield 32) 3 73 := ⟨by decide +kernel, rfl⟩
theorem d1_73 : DAt B1 73 (.aload_n 0) 1 74 := ⟨by decide +kernel, rfl⟩
theorem d1_74 : DAt B1 74 (.bipush 8) 2 76 := ⟨by decide +kernel, rfl⟩
theorem d1_76 : DAt B1 76 (.newarray .int) 2 78 := ⟨by decide +kernel, rfl⟩
theorem d1_78 : DAt B1 78 (.putfield 35) 3 81 := ⟨by decide +kernel, rfl⟩
theorem d1_81 : DAt B1 81 (.iload_n 1) 1 82 := ⟨by decide +kernel, rfl⟩
theorem d1_82 : DAt B1 82 (.istore_n 3) 1 83 := ⟨by decide +kernel, rfl⟩
theorem d1_83 : DAt B1 83 (.iload_n 3) 1 84 := ⟨by decide +kernel, rfl⟩
theorem d1_84 : DAt B1 84 (.iconst 2) 1 85 := ⟨by decide +kernel, rfl⟩
theorem d1_85 : DAt B1 85 (.if_icmp .ge 5) 3 88 := ⟨by decide +kernel, rfl⟩
theorem d1_88 : DAt B1 88 (.iconst 2) 1 89 := ⟨by decide +kernel, rfl⟩
theorem d1_89 : DAt B1 89 (.istore_n 3) 1 90 := ⟨by decide +kernel, rfl⟩
theorem d1_90 : DAt B1 90 (.iload_n 3) 1 91 := ⟨by decide +kernel, rfl⟩
theorem d1_91 : DAt B1 91 (.bipush 8) 2 93 := ⟨by decide +kernel, rfl⟩
theorem d1_93 : DAt B1 93 (.if_icmp .le 6) 3 96 := ⟨by decide +kernel, rfl⟩
theorem d1_96 : DAt B1 96 (.bipush 8) 2 98 := ⟨by decide +kernel, rfl⟩
theorem d1_98 : DAt B1 98 (.istore_n 3) 1 99 := ⟨by decide +kernel, rfl⟩
theorem d1_99 : DAt B1 99 (.aload_n 0) 1 100 := ⟨by decide +kernel, rfl⟩
theorem d1_100 : DAt B1 100 (.iload_n 3) 1 101 := ⟨by decide +kernel, rfl⟩
theorem d1_101 : DAt B1 101 (.putfield 38) 3 104 := ⟨by decide +kernel, rfl⟩
theorem d1_104 : DAt B1 104 (.iload_n 2) 1 105 := ⟨by decide +kernel, rfl⟩
theorem d1_105 : DAt B1 105 (.istore 4) 2 107 := ⟨by decide +kernel, rfl⟩
theorem d1_107 : DAt B1 107 (.iload 4) 2 109 := ⟨by decide +kernel, rfl⟩
theorem d1_109 : DAt B1 109 (.iconst 1) 1 110 := ⟨by decide +kernel, rfl⟩
theorem d1_110 : DAt B1 110 (.if_icmp .ge 6) 3 113 := ⟨by decide +kernel, rfl⟩
theorem d1_113 : DAt B1 113 (.iconst 1) 1 114 := ⟨by decide +kernel, rfl⟩
theorem d1_114 : DAt B1 114 (.istore 4) 2 116 := ⟨by decide +kernel, rfl⟩
theorem d1_116 : DAt B1 116 (.iload 4) 2 118 := ⟨by decide +kernel, rfl⟩
theorem d1_118 : DAt B1 118 (.bipush 8) 2 120 := ⟨by decide +kernel, rfl⟩
theorem d1_120 : DAt B1 120 (.if_icmp .le 7) 3 123 := ⟨by decide +kernel, rfl⟩
theorem d1_123 : DAt B1 123 (.bipush 8) 2 125 := ⟨by decide +kernel, rfl⟩
theorem d1_125 : DAt B1 125 (.istore 4) 2 127 := ⟨by decide +kernel, rfl⟩
theorem d1_127 : DAt B1 127 (.aload_n 0) 1 128 := ⟨by decide +kernel, rfl⟩
theorem d1_128 : DAt B1 128 (.iload 4) 2 130 := ⟨by decide +kernel, rfl⟩
theorem d1_130 : DAt B1 130 (.putfield 42) 3 133 := ⟨by decide +kernel, rfl⟩
theorem d1_133 : DAt B1 133 (.return_) 1 134 := ⟨by decide +kernel, rfl⟩
def B3 : Bdy := ((⟨"CausalStable", "validProc", "(I)Z"⟩ : MethodName), prog_1_method_2_code, 2, (some .boolean), ({ frames := 0, cells := 0, slots := 0, locals := 0 } : Room))
theorem d3_0 : DAt B3 0 (.iload_n 1) 1 1 := ⟨by decide +kernel, rfl⟩
theorem d3_1 : DAt B3 1 (.ifCond .lt 15) 3 4 := ⟨by decide +kernel, rfl⟩
theorem d3_4 : DAt B3 4 (.iload_n 1) 1 5 := ⟨by decide +kernel, rfl⟩
theorem d3_5 : DAt B3 5 (.aload_n 0) 1 6 := ⟨by decide +kernel, rfl⟩
theorem d3_6 : DAt B3 6 (.getfield 38) 3 9 := ⟨by decide +kernel, rfl⟩
theorem d3_9 : DAt B3 9 (.if_icmp .ge 7) 3 12 := ⟨by decide +kernel, rfl⟩
theorem d3_12 : DAt B3 12 (.iconst 1) 1 13 := ⟨by decide +kernel, rfl⟩
theorem d3_13 : DAt B3 13 (.goto 4) 3 16 := ⟨by decide +kernel, rfl⟩
theorem d3_16 : DAt B3 16 (.iconst 0) 1 17 := ⟨by decide +kernel, rfl⟩
theorem d3_17 : DAt B3 17 (.ireturn) 1 18 := ⟨by decide +kernel, rfl⟩
def B12 : Bdy := ((⟨"CausalStable", "msgIndex", "(II)I"⟩ : MethodName), prog_1_method_4_code, 3, (some .int), ({ frames := 0, cells := 0, slots := 0, locals := 0 } : Room))
theorem d12_0 : DAt B12 0 (.iload_n 1) 1 1 := ⟨by decide +kernel, rfl⟩
theorem d12_1 : DAt B12 1 (.bipush 8) 2 3 := ⟨by decide +kernel, rfl⟩
theorem d12_3 : DAt B12 3 (.imul) 1 4 := ⟨by decide +kernel, rfl⟩
theorem d12_4 : DAt B12 4 (.iload_n 2) 1 5 := ⟨by decide +kernel, rfl⟩
theorem d12_5 : DAt B12 5 (.iadd) 1 6 := ⟨by decide +kernel, rfl⟩
theorem d12_6 : DAt B12 6 (.iconst 1) 1 7 := ⟨by decide +kernel, rfl⟩
theorem d12_7 : DAt B12 7 (.isub) 1 8 := ⟨by decide +kernel, rfl⟩
theorem d12_8 : DAt B12 8 (.ireturn) 1 9 := ⟨by decide +kernel, rfl⟩
def B14 : Bdy := ((⟨"CausalStable", "stateIndex", "(III)I"⟩ : MethodName), prog_1_method_5_code, 4, (some .int), ({ frames := 0, cells := 0, slots := 0, locals := 0 } : Room))
theorem d14_0 : DAt B14 0 (.iload_n 1) 1 1 := ⟨by decide +kernel, rfl⟩
theorem d14_1 : DAt B14 1 (.bipush 64) 2 3 := ⟨by decide +kernel, rfl⟩
theorem d14_3 : DAt B14 3 (.imul) 1 4 := ⟨by decide +kernel, rfl⟩
theorem d14_4 : DAt B14 4 (.iload_n 2) 1 5 := ⟨by decide +kernel, rfl⟩
theorem d14_5 : DAt B14 5 (.bipush 8) 2 7 := ⟨by decide +kernel, rfl⟩
theorem d14_7 : DAt B14 7 (.imul) 1 8 := ⟨by decide +kernel, rfl⟩
theorem d14_8 : DAt B14 8 (.iadd) 1 9 := ⟨by decide +kernel, rfl⟩
theorem d14_9 : DAt B14 9 (.iload_n 3) 1 10 := ⟨by decide +kernel, rfl⟩
theorem d14_10 : DAt B14 10 (.iadd) 1 11 := ⟨by decide +kernel, rfl⟩
theorem d14_11 : DAt B14 11 (.iconst 1) 1 12 := ⟨by decide +kernel, rfl⟩
theorem d14_12 : DAt B14 12 (.isub) 1 13 := ⟨by decide +kernel, rfl⟩
theorem d14_13 : DAt B14 13 (.ireturn) 1 14 := ⟨by decide +kernel, rfl⟩
def B15 : Bdy := ((⟨"CausalStable", "knownIndex", "(III)I"⟩ : MethodName), prog_1_method_7_code, 4, (some .int), ({ frames := 0, cells := 0, slots := 0, locals := 0 } : Room))
theorem d15_0 : DAt B15 0 (.iload_n 1) 1 1 := ⟨by decide +kernel, rfl⟩
theorem d15_1 : DAt B15 1 (.bipush 64) 2 3 := ⟨by decide +kernel, rfl⟩
theorem d15_3 : DAt B15 3 (.imul) 1 4 := ⟨by decide +kernel, rfl⟩
theorem d15_4 : DAt B15 4 (.iload_n 2) 1 5 := ⟨by decide +kernel, rfl⟩
theorem d15_5 : DAt B15 5 (.bipush 8) 2 7 := ⟨by decide +kernel, rfl⟩
theorem d15_7 : DAt B15 7 (.imul) 1 8 := ⟨by decide +kernel, rfl⟩
theorem d15_8 : DAt B15 8 (.iadd) 1 9 := ⟨by decide +kernel, rfl⟩
theorem d15_9 : DAt B15 9 (.iload_n 3) 1 10 := ⟨by decide +kernel, rfl⟩
theorem d15_10 : DAt B15 10 (.iadd) 1 11 := ⟨by decide +kernel, rfl⟩
theorem d15_11 : DAt B15 11 (.ireturn) 1 12 := ⟨by decide +kernel, rfl⟩
def B13 : Bdy := ((⟨"CausalStable", "deliverAt", "(III)V"⟩ : MethodName), prog_1_method_8_code, 7, none, ({ frames := 1, cells := 0, slots := 0, locals := 15 } : Room))
theorem d13_0 : DAt B13 0 (.aload_n 0) 1 1 := ⟨by decide +kernel, rfl⟩
theorem d13_1 : DAt B13 1 (.iload_n 1) 1 2 := ⟨by decide +kernel, rfl⟩
theorem d13_2 : DAt B13 2 (.iload_n 2) 1 3 := ⟨by decide +kernel, rfl⟩
theorem d13_3 : DAt B13 3 (.iload_n 3) 1 4 := ⟨by decide +kernel, rfl⟩
theorem d13_4 : DAt B13 4 (.invokevirtual 45) 3 7 := ⟨by decide +kernel, rfl⟩
theorem d13_7 : DAt B13 7 (.istore 4) 2 9 := ⟨by decide +kernel, rfl⟩
theorem d13_9 : DAt B13 9 (.aload_n 0) 1 10 := ⟨by decide +kernel, rfl⟩
theorem d13_10 : DAt B13 10 (.getfield 20) 3 13 := ⟨by decide +kernel, rfl⟩
theorem d13_13 : DAt B13 13 (.iload 4) 2 15 := ⟨by decide +kernel, rfl⟩
theorem d13_15 : DAt B13 15 (.iconst 2) 1 16 := ⟨by decide +kernel, rfl⟩
theorem d13_16 : DAt B13 16 (.iastore) 1 17 := ⟨by decide +kernel, rfl⟩
theorem d13_17 : DAt B13 17 (.aload_n 0) 1 18 := ⟨by decide +kernel, rfl⟩
theorem d13_18 : DAt B13 18 (.getfield 17) 3 21 := ⟨by decide +kernel, rfl⟩
theorem d13_21 : DAt B13 21 (.iload_n 1) 1 22 := ⟨by decide +kernel, rfl⟩
theorem d13_22 : DAt B13 22 (.bipush 8) 2 24 := ⟨by decide +kernel, rfl⟩
theorem d13_24 : DAt B13 24 (.imul) 1 25 := ⟨by decide +kernel, rfl⟩
theorem d13_25 : DAt B13 25 (.iload_n 2) 1 26 := ⟨by decide +kernel, rfl⟩
theorem d13_26 : DAt B13 26 (.iadd) 1 27 := ⟨by decide +kernel, rfl⟩
theorem d13_27 : DAt B13 27 (.aload_n 0) 1 28 := ⟨by decide +kernel, rfl⟩
theorem d13_28 : DAt B13 28 (.getfield 17) 3 31 := ⟨by decide +kernel, rfl⟩
theorem d13_31 : DAt B13 31 (.iload_n 1) 1 32 := ⟨by decide +kernel, rfl⟩
theorem d13_32 : DAt B13 32 (.bipush 8) 2 34 := ⟨by decide +kernel, rfl⟩
theorem d13_34 : DAt B13 34 (.imul) 1 35 := ⟨by decide +kernel, rfl⟩
theorem d13_35 : DAt B13 35 (.iload_n 2) 1 36 := ⟨by decide +kernel, rfl⟩
theorem d13_36 : DAt B13 36 (.iadd) 1 37 := ⟨by decide +kernel, rfl⟩
theorem d13_37 : DAt B13 37 (.iaload) 1 38 := ⟨by decide +kernel, rfl⟩
theorem d13_38 : DAt B13 38 (.iconst 1) 1 39 := ⟨by decide +kernel, rfl⟩
theorem d13_39 : DAt B13 39 (.iadd) 1 40 := ⟨by decide +kernel, rfl⟩
theorem d13_40 : DAt B13 40 (.iastore) 1 41 := ⟨by decide +kernel, rfl⟩
theorem d13_41 : DAt B13 41 (.aload_n 0) 1 42 := ⟨by decide +kernel, rfl⟩
theorem d13_42 : DAt B13 42 (.getfield 35) 3 45 := ⟨by decide +kernel, rfl⟩
theorem d13_45 : DAt B13 45 (.iload_n 1) 1 46 := ⟨by decide +kernel, rfl⟩
theorem d13_46 : DAt B13 46 (.iaload) 1 47 := ⟨by decide +kernel, rfl⟩
theorem d13_47 : DAt B13 47 (.istore 5) 2 49 := ⟨by decide +kernel, rfl⟩
theorem d13_49 : DAt B13 49 (.iload 5) 2 51 := ⟨by decide +kernel, rfl⟩
theorem d13_51 : DAt B13 51 (.ifCond .lt 38) 3 54 := ⟨by decide +kernel, rfl⟩
theorem d13_54 : DAt B13 54 (.iload 5) 2 56 := ⟨by decide +kernel, rfl⟩
theorem d13_56 : DAt B13 56 (.bipush 64) 2 58 := ⟨by decide +kernel, rfl⟩
theorem d13_58 : DAt B13 58 (.if_icmp .ge 31) 3 61 := ⟨by decide +kernel, rfl⟩
theorem d13_61 : DAt B13 61 (.aload_n 0) 1 62 := ⟨by decide +kernel, rfl⟩
theorem d13_62 : DAt B13 62 (.getfield 32) 3 65 := ⟨by decide +kernel, rfl⟩
theorem d13_65 : DAt B13 65 (.iload_n 1) 1 66 := ⟨by decide +kernel, rfl⟩
theorem d13_66 : DAt B13 66 (.bipush 64) 2 68 := ⟨by decide +kernel, rfl⟩
theorem d13_68 : DAt B13 68 (.imul) 1 69 := ⟨by decide +kernel, rfl⟩
theorem d13_69 : DAt B13 69 (.iload 5) 2 71 := ⟨by decide +kernel, rfl⟩
theorem d13_71 : DAt B13 71 (.iadd) 1 72 := ⟨by decide +kernel, rfl⟩
theorem d13_72 : DAt B13 72 (.iload_n 2) 1 73 := ⟨by decide +kernel, rfl⟩
theorem d13_73 : DAt B13 73 (.bipush 16) 2 75 := ⟨by decide +kernel, rfl⟩
theorem d13_75 : DAt B13 75 (.imul) 1 76 := ⟨by decide +kernel, rfl⟩
theorem d13_76 : DAt B13 76 (.iload_n 3) 1 77 := ⟨by decide +kernel, rfl⟩
theorem d13_77 : DAt B13 77 (.iadd) 1 78 := ⟨by decide +kernel, rfl⟩
theorem d13_78 : DAt B13 78 (.iastore) 1 79 := ⟨by decide +kernel, rfl⟩
theorem d13_79 : DAt B13 79 (.aload_n 0) 1 80 := ⟨by decide +kernel, rfl⟩
theorem d13_80 : DAt B13 80 (.getfield 35) 3 83 := ⟨by decide +kernel, rfl⟩
theorem d13_83 : DAt B13 83 (.iload_n 1) 1 84 := ⟨by decide +kernel, rfl⟩
theorem d13_84 : DAt B13 84 (.iload 5) 2 86 := ⟨by decide +kernel, rfl⟩
theorem d13_86 : DAt B13 86 (.iconst 1) 1 87 := ⟨by decide +kernel, rfl⟩
theorem d13_87 : DAt B13 87 (.iadd) 1 88 := ⟨by decide +kernel, rfl⟩
theorem d13_88 : DAt B13 88 (.iastore) 1 89 := ⟨by decide +kernel, rfl⟩
theorem d13_89 : DAt B13 89 (.aload_n 0) 1 90 := ⟨by decide +kernel, rfl⟩
theorem d13_90 : DAt B13 90 (.iload_n 1) 1 91 := ⟨by decide +kernel, rfl⟩
theorem d13_91 : DAt B13 91 (.iload_n 1) 1 92 := ⟨by decide +kernel, rfl⟩
theorem d13_92 : DAt B13 92 (.iload_n 2) 1 93 := ⟨by decide +kernel, rfl⟩
theorem d13_93 : DAt B13 93 (.invokevirtual 49) 3 96 := ⟨by decide +kernel, rfl⟩
theorem d13_96 : DAt B13 96 (.istore 6) 2 98 := ⟨by decide +kernel, rfl⟩
theorem d13_98 : DAt B13 98 (.aload_n 0) 1 99 := ⟨by decide +kernel, rfl⟩
theorem d13_99 : DAt B13 99 (.getfield 29) 3 102 := ⟨by decide +kernel, rfl⟩
theorem d13_102 : DAt B13 102 (.iload 6) 2 104 := ⟨by decide +kernel, rfl⟩
theorem d13_104 : DAt B13 104 (.aload_n 0) 1 105 := ⟨by decide +kernel, rfl⟩
theorem d13_105 : DAt B13 105 (.getfield 17) 3 108 := ⟨by decide +kernel, rfl⟩
theorem d13_108 : DAt B13 108 (.iload_n 1) 1 109 := ⟨by decide +kernel, rfl⟩
theorem d13_109 : DAt B13 109 (.bipush 8) 2 111 := ⟨by decide +kernel, rfl⟩
theorem d13_111 : DAt B13 111 (.imul) 1 112 := ⟨by decide +kernel, rfl⟩
theorem d13_112 : DAt B13 112 (.iload_n 2) 1 113 := ⟨by decide +kernel, rfl⟩
theorem d13_113 : DAt B13 113 (.iadd) 1 114 := ⟨by decide +kernel, rfl⟩
theorem d13_114 : DAt B13 114 (.iaload) 1 115 := ⟨by decide +kernel, rfl⟩
theorem d13_115 : DAt B13 115 (.iastore) 1 116 := ⟨by decide +kernel, rfl⟩
theorem d13_116 : DAt B13 116 (.return_) 1 117 := ⟨by decide +kernel, rfl⟩
def B2 : Bdy := ((⟨"CausalStable", "broadcast", "(I)I"⟩ : MethodName), prog_1_method_13_code, 5, (some .int), ({ frames := 2, cells := 0, slots := 0, locals := 33 } : Room))
theorem d2_0 : DAt B2 0 (.aload_n 0) 1 1 := ⟨by decide +kernel, rfl⟩
theorem d2_1 : DAt B2 1 (.iload_n 1) 1 2 := ⟨by decide +kernel, rfl⟩
theorem d2_2 : DAt B2 2 (.invokevirtual 68) 3 5 := ⟨by decide +kernel, rfl⟩
theorem d2_5 : DAt B2 5 (.ifCond .ne 5) 3 8 := ⟨by decide +kernel, rfl⟩
theorem d2_8 : DAt B2 8 (.iconst (-1)) 1 9 := ⟨by decide +kernel, rfl⟩
theorem d2_9 : DAt B2 9 (.ireturn) 1 10 := ⟨by decide +kernel, rfl⟩
theorem d2_10 : DAt B2 10 (.aload_n 0) 1 11 := ⟨by decide +kernel, rfl⟩
theorem d2_11 : DAt B2 11 (.getfield 13) 3 14 := ⟨by decide +kernel, rfl⟩
theorem d2_14 : DAt B2 14 (.iload_n 1) 1 15 := ⟨by decide +kernel, rfl⟩
theorem d2_15 : DAt B2 15 (.baload) 1 16 := ⟨by decide +kernel, rfl⟩
theorem d2_16 : DAt B2 16 (.ifCond .eq 6) 3 19 := ⟨by decide +kernel, rfl⟩
theorem d2_19 : DAt B2 19 (.bipush (-2)) 2 21 := ⟨by decide +kernel, rfl⟩
theorem d2_21 : DAt B2 21 (.ireturn) 1 22 := ⟨by decide +kernel, rfl⟩
theorem d2_22 : DAt B2 22 (.aload_n 0) 1 23 := ⟨by decide +kernel, rfl⟩
theorem d2_23 : DAt B2 23 (.getfield 7) 3 26 := ⟨by decide +kernel, rfl⟩
theorem d2_26 : DAt B2 26 (.iload_n 1) 1 27 := ⟨by decide +kernel, rfl⟩
theorem d2_27 : DAt B2 27 (.iaload) 1 28 := ⟨by decide +kernel, rfl⟩
theorem d2_28 : DAt B2 28 (.aload_n 0) 1 29 := ⟨by decide +kernel, rfl⟩
theorem d2_29 : DAt B2 29 (.getfield 42) 3 32 := ⟨by decide +kernel, rfl⟩
theorem d2_32 : DAt B2 32 (.if_icmp .lt 6) 3 35 := ⟨by decide +kernel, rfl⟩
theorem d2_35 : DAt B2 35 (.bipush (-3)) 2 37 := ⟨by decide +kernel, rfl⟩
theorem d2_37 : DAt B2 37 (.ireturn) 1 38 := ⟨by decide +kernel, rfl⟩
theorem d2_38 : DAt B2 38 (.aload_n 0) 1 39 := ⟨by decide +kernel, rfl⟩
theorem d2_39 : DAt B2 39 (.getfield 7) 3 42 := ⟨by decide +kernel, rfl⟩
theorem d2_42 : DAt B2 42 (.iload_n 1) 1 43 := ⟨by decide +kernel, rfl⟩
theorem d2_43 : DAt B2 43 (.iaload) 1 44 := ⟨by decide +kernel, rfl⟩
theorem d2_44 : DAt B2 44 (.iconst 1) 1 45 := ⟨by decide +kernel, rfl⟩
theorem d2_45 : DAt B2 45 (.iadd) 1 46 := ⟨by decide +kernel, rfl⟩
theorem d2_46 : DAt B2 46 (.istore_n 2) 1 47 := ⟨by decide +kernel, rfl⟩
theorem d2_47 : DAt B2 47 (.aload_n 0) 1 48 := ⟨by decide +kernel, rfl⟩
theorem d2_48 : DAt B2 48 (.getfield 7) 3 51 := ⟨by decide +kernel, rfl⟩
theorem d2_51 : DAt B2 51 (.iload_n 1) 1 52 := ⟨by decide +kernel, rfl⟩
theorem d2_52 : DAt B2 52 (.iload_n 2) 1 53 := ⟨by decide +kernel, rfl⟩
theorem d2_53 : DAt B2 53 (.iastore) 1 54 := ⟨by decide +kernel, rfl⟩
theorem d2_54 : DAt B2 54 (.aload_n 0) 1 55 := ⟨by decide +kernel, rfl⟩
theorem d2_55 : DAt B2 55 (.iload_n 1) 1 56 := ⟨by decide +kernel, rfl⟩
theorem d2_56 : DAt B2 56 (.iload_n 2) 1 57 := ⟨by decide +kernel, rfl⟩
theorem d2_57 : DAt B2 57 (.invokevirtual 56) 3 60 := ⟨by decide +kernel, rfl⟩
theorem d2_60 : DAt B2 60 (.istore_n 3) 1 61 := ⟨by decide +kernel, rfl⟩
theorem d2_61 : DAt B2 61 (.iconst 0) 1 62 := ⟨by decide +kernel, rfl⟩
theorem d2_62 : DAt B2 62 (.istore 4) 2 64 := ⟨by decide +kernel, rfl⟩
theorem d2_64 : DAt B2 64 (.iload 4) 2 66 := ⟨by decide +kernel, rfl⟩
theorem d2_66 : DAt B2 66 (.aload_n 0) 1 67 := ⟨by decide +kernel, rfl⟩
theorem d2_67 : DAt B2 67 (.getfield 38) 3 70 := ⟨by decide +kernel, rfl⟩
theorem d2_70 : DAt B2 70 (.if_icmp .ge 33) 3 73 := ⟨by decide +kernel, rfl⟩
theorem d2_73 : DAt B2 73 (.aload_n 0) 1 74 := ⟨by decide +kernel, rfl⟩
theorem d2_74 : DAt B2 74 (.getfield 23) 3 77 := ⟨by decide +kernel, rfl⟩
theorem d2_77 : DAt B2 77 (.iload_n 3) 1 78 := ⟨by decide +kernel, rfl⟩
theorem d2_78 : DAt B2 78 (.bipush 8) 2 80 := ⟨by decide +kernel, rfl⟩
theorem d2_80 : DAt B2 80 (.imul) 1 81 := ⟨by decide +kernel, rfl⟩
theorem d2_81 : DAt B2 81 (.iload 4) 2 83 := ⟨by decide +kernel, rfl⟩
theorem d2_83 : DAt B2 83 (.iadd) 1 84 := ⟨by decide +kernel, rfl⟩
theorem d2_84 : DAt B2 84 (.aload_n 0) 1 85 := ⟨by decide +kernel, rfl⟩
theorem d2_85 : DAt B2 85 (.getfield 17) 3 88 := ⟨by decide +kernel, rfl⟩
theorem d2_88 : DAt B2 88 (.iload_n 1) 1 89 := ⟨by decide +kernel, rfl⟩
theorem d2_89 : DAt B2 89 (.bipush 8) 2 91 := ⟨by decide +kernel, rfl⟩
theorem d2_91 : DAt B2 91 (.imul) 1 92 := ⟨by decide +kernel, rfl⟩
theorem d2_92 : DAt B2 92 (.iload 4) 2 94 := ⟨by decide +kernel, rfl⟩
theorem d2_94 : DAt B2 94 (.iadd) 1 95 := ⟨by decide +kernel, rfl⟩
theorem d2_95 : DAt B2 95 (.iaload) 1 96 := ⟨by decide +kernel, rfl⟩
theorem d2_96 : DAt B2 96 (.iastore) 1 97 := ⟨by decide +kernel, rfl⟩
theorem d2_97 : DAt B2 97 (.iinc 4 1) 3 100 := ⟨by decide +kernel, rfl⟩
theorem d2_100 : DAt B2 100 (.goto (-36)) 3 103 := ⟨by decide +kernel, rfl⟩
theorem d2_103 : DAt B2 103 (.aload_n 0) 1 104 := ⟨by decide +kernel, rfl⟩
theorem d2_104 : DAt B2 104 (.getfield 23) 3 107 := ⟨by decide +kernel, rfl⟩
theorem d2_107 : DAt B2 107 (.iload_n 3) 1 108 := ⟨by decide +kernel, rfl⟩
theorem d2_108 : DAt B2 108 (.bipush 8) 2 110 := ⟨by decide +kernel, rfl⟩
theorem d2_110 : DAt B2 110 (.imul) 1 111 := ⟨by decide +kernel, rfl⟩
theorem d2_111 : DAt B2 111 (.iload_n 1) 1 112 := ⟨by decide +kernel, rfl⟩
theorem d2_112 : DAt B2 112 (.iadd) 1 113 := ⟨by decide +kernel, rfl⟩
theorem d2_113 : DAt B2 113 (.iload_n 2) 1 114 := ⟨by decide +kernel, rfl⟩
theorem d2_114 : DAt B2 114 (.iastore) 1 115 := ⟨by decide +kernel, rfl⟩
theorem d2_115 : DAt B2 115 (.aload_n 0) 1 116 := ⟨by decide +kernel, rfl⟩
theorem d2_116 : DAt B2 116 (.iload_n 1) 1 117 := ⟨by decide +kernel, rfl⟩
theorem d2_117 : DAt B2 117 (.iload_n 1) 1 118 := ⟨by decide +kernel, rfl⟩
theorem d2_118 : DAt B2 118 (.iload_n 2) 1 119 := ⟨by decide +kernel, rfl⟩
theorem d2_119 : DAt B2 119 (.invokevirtual 64) 3 122 := ⟨by decide +kernel, rfl⟩
theorem d2_122 : DAt B2 122 (.iconst 0) 1 123 := ⟨by decide +kernel, rfl⟩
theorem d2_123 : DAt B2 123 (.istore 4) 2 125 := ⟨by decide +kernel, rfl⟩
theorem d2_125 : DAt B2 125 (.iload 4) 2 127 := ⟨by decide +kernel, rfl⟩
theorem d2_127 : DAt B2 127 (.aload_n 0) 1 128 := ⟨by decide +kernel, rfl⟩
theorem d2_128 : DAt B2 128 (.getfield 38) 3 131 := ⟨by decide +kernel, rfl⟩
theorem d2_131 : DAt B2 131 (.if_icmp .ge 32) 3 134 := ⟨by decide +kernel, rfl⟩
theorem d2_134 : DAt B2 134 (.aload_n 0) 1 135 := ⟨by decide +kernel, rfl⟩
theorem d2_135 : DAt B2 135 (.getfield 26) 3 138 := ⟨by decide +kernel, rfl⟩
theorem d2_138 : DAt B2 138 (.iload_n 3) 1 139 := ⟨by decide +kernel, rfl⟩
theorem d2_139 : DAt B2 139 (.bipush 8) 2 141 := ⟨by decide +kernel, rfl⟩
theorem d2_141 : DAt B2 141 (.imul) 1 142 := ⟨by decide +kernel, rfl⟩
theorem d2_142 : DAt B2 142 (.iload 4) 2 144 := ⟨by decide +kernel, rfl⟩
theorem d2_144 : DAt B2 144 (.iadd) 1 145 := ⟨by decide +kernel, rfl⟩
theorem d2_145 : DAt B2 145 (.iload 4) 2 147 := ⟨by decide +kernel, rfl⟩
theorem d2_147 : DAt B2 147 (.iload_n 1) 1 148 := ⟨by decide +kernel, rfl⟩
theorem d2_148 : DAt B2 148 (.if_icmp .ne 7) 3 151 := ⟨by decide +kernel, rfl⟩
theorem d2_151 : DAt B2 151 (.iconst 0) 1 152 := ⟨by decide +kernel, rfl⟩
theorem d2_152 : DAt B2 152 (.goto 4) 3 155 := ⟨by decide +kernel, rfl⟩
theorem d2_155 : DAt B2 155 (.iconst 1) 1 156 := ⟨by decide +kernel, rfl⟩
theorem d2_156 : DAt B2 156 (.iastore) 1 157 := ⟨by decide +kernel, rfl⟩
theorem d2_157 : DAt B2 157 (.iinc 4 1) 3 160 := ⟨by decide +kernel, rfl⟩
theorem d2_160 : DAt B2 160 (.goto (-35)) 3 163 := ⟨by decide +kernel, rfl⟩
theorem d2_163 : DAt B2 163 (.iload_n 2) 1 164 := ⟨by decide +kernel, rfl⟩
theorem d2_164 : DAt B2 164 (.ireturn) 1 165 := ⟨by decide +kernel, rfl⟩
def B4 : Bdy := ((⟨"CausalStable", "sent", "(I)I"⟩ : MethodName), prog_1_method_21_code, 2, (some .int), ({ frames := 1, cells := 0, slots := 0, locals := 13 } : Room))
theorem d4_0 : DAt B4 0 (.aload_n 0) 1 1 := ⟨by decide +kernel, rfl⟩
theorem d4_1 : DAt B4 1 (.iload_n 1) 1 2 := ⟨by decide +kernel, rfl⟩
theorem d4_2 : DAt B4 2 (.invokevirtual 68) 3 5 := ⟨by decide +kernel, rfl⟩
theorem d4_5 : DAt B4 5 (.ifCond .ne 5) 3 8 := ⟨by decide +kernel, rfl⟩
theorem d4_8 : DAt B4 8 (.iconst (-1)) 1 9 := ⟨by decide +kernel, rfl⟩
theorem d4_9 : DAt B4 9 (.ireturn) 1 10 := ⟨by decide +kernel, rfl⟩
theorem d4_10 : DAt B4 10 (.aload_n 0) 1 11 := ⟨by decide +kernel, rfl⟩
theorem d4_11 : DAt B4 11 (.getfield 7) 3 14 := ⟨by decide +kernel, rfl⟩
theorem d4_14 : DAt B4 14 (.iload_n 1) 1 15 := ⟨by decide +kernel, rfl⟩
theorem d4_15 : DAt B4 15 (.iaload) 1 16 := ⟨by decide +kernel, rfl⟩
theorem d4_16 : DAt B4 16 (.ireturn) 1 17 := ⟨by decide +kernel, rfl⟩
def B6 : Bdy := ((⟨"CausalStable", "exists", "(II)Z"⟩ : MethodName), prog_1_method_3_code, 3, (some .boolean), ({ frames := 0, cells := 0, slots := 0, locals := 0 } : Room))
theorem d6_0 : DAt B6 0 (.iload_n 1) 1 1 := ⟨by decide +kernel, rfl⟩
theorem d6_1 : DAt B6 1 (.ifCond .lt 30) 3 4 := ⟨by decide +kernel, rfl⟩
theorem d6_4 : DAt B6 4 (.iload_n 1) 1 5 := ⟨by decide +kernel, rfl⟩
theorem d6_5 : DAt B6 5 (.aload_n 0) 1 6 := ⟨by decide +kernel, rfl⟩
theorem d6_6 : DAt B6 6 (.getfield 38) 3 9 := ⟨by decide +kernel, rfl⟩
theorem d6_9 : DAt B6 9 (.if_icmp .ge 22) 3 12 := ⟨by decide +kernel, rfl⟩
theorem d6_12 : DAt B6 12 (.iload_n 2) 1 13 := ⟨by decide +kernel, rfl⟩
theorem d6_13 : DAt B6 13 (.iconst 1) 1 14 := ⟨by decide +kernel, rfl⟩
theorem d6_14 : DAt B6 14 (.if_icmp .lt 17) 3 17 := ⟨by decide +kernel, rfl⟩
theorem d6_17 : DAt B6 17 (.iload_n 2) 1 18 := ⟨by decide +kernel, rfl⟩
theorem d6_18 : DAt B6 18 (.aload_n 0) 1 19 := ⟨by decide +kernel, rfl⟩
theorem d6_19 : DAt B6 19 (.getfield 7) 3 22 := ⟨by decide +kernel, rfl⟩
theorem d6_22 : DAt B6 22 (.iload_n 1) 1 23 := ⟨by decide +kernel, rfl⟩
theorem d6_23 : DAt B6 23 (.iaload) 1 24 := ⟨by decide +kernel, rfl⟩
theorem d6_24 : DAt B6 24 (.if_icmp .gt 7) 3 27 := ⟨by decide +kernel, rfl⟩
theorem d6_27 : DAt B6 27 (.iconst 1) 1 28 := ⟨by decide +kernel, rfl⟩
theorem d6_28 : DAt B6 28 (.goto 4) 3 31 := ⟨by decide +kernel, rfl⟩
theorem d6_31 : DAt B6 31 (.iconst 0) 1 32 := ⟨by decide +kernel, rfl⟩
theorem d6_32 : DAt B6 32 (.ireturn) 1 33 := ⟨by decide +kernel, rfl⟩
def B5 : Bdy := ((⟨"CausalStable", "stamp", "(III)I"⟩ : MethodName), prog_1_method_22_code, 5, (some .int), ({ frames := 1, cells := 0, slots := 0, locals := 14 } : Room))
theorem d5_0 : DAt B5 0 (.aload_n 0) 1 1 := ⟨by decide +kernel, rfl⟩
theorem d5_1 : DAt B5 1 (.iload_n 1) 1 2 := ⟨by decide +kernel, rfl⟩
theorem d5_2 : DAt B5 2 (.iload_n 2) 1 3 := ⟨by decide +kernel, rfl⟩
theorem d5_3 : DAt B5 3 (.invokevirtual 52) 3 6 := ⟨by decide +kernel, rfl⟩
theorem d5_6 : DAt B5 6 (.ifCond .eq 11) 3 9 := ⟨by decide +kernel, rfl⟩
theorem d5_9 : DAt B5 9 (.aload_n 0) 1 10 := ⟨by decide +kernel, rfl⟩
theorem d5_10 : DAt B5 10 (.iload_n 3) 1 11 := ⟨by decide +kernel, rfl⟩
theorem d5_11 : DAt B5 11 (.invokevirtual 68) 3 14 := ⟨by decide +kernel, rfl⟩
theorem d5_14 : DAt B5 14 (.ifCond .ne 5) 3 17 := ⟨by decide +kernel, rfl⟩
theorem d5_17 : DAt B5 17 (.iconst (-1)) 1 18 := ⟨by decide +kernel, rfl⟩
theorem d5_18 : DAt B5 18 (.ireturn) 1 19 := ⟨by decide +kernel, rfl⟩
theorem d5_19 : DAt B5 19 (.aload_n 0) 1 20 := ⟨by decide +kernel, rfl⟩
theorem d5_20 : DAt B5 20 (.iload_n 1) 1 21 := ⟨by decide +kernel, rfl⟩
theorem d5_21 : DAt B5 21 (.iload_n 2) 1 22 := ⟨by decide +kernel, rfl⟩
theorem d5_22 : DAt B5 22 (.invokevirtual 56) 3 25 := ⟨by decide +kernel, rfl⟩
theorem d5_25 : DAt B5 25 (.istore 4) 2 27 := ⟨by decide +kernel, rfl⟩
theorem d5_27 : DAt B5 27 (.aload_n 0) 1 28 := ⟨by decide +kernel, rfl⟩
theorem d5_28 : DAt B5 28 (.getfield 23) 3 31 := ⟨by decide +kernel, rfl⟩
theorem d5_31 : DAt B5 31 (.iload 4) 2 33 := ⟨by decide +kernel, rfl⟩
theorem d5_33 : DAt B5 33 (.bipush 8) 2 35 := ⟨by decide +kernel, rfl⟩
theorem d5_35 : DAt B5 35 (.imul) 1 36 := ⟨by decide +kernel, rfl⟩
theorem d5_36 : DAt B5 36 (.iload_n 3) 1 37 := ⟨by decide +kernel, rfl⟩
theorem d5_37 : DAt B5 37 (.iadd) 1 38 := ⟨by decide +kernel, rfl⟩
theorem d5_38 : DAt B5 38 (.iaload) 1 39 := ⟨by decide +kernel, rfl⟩
theorem d5_39 : DAt B5 39 (.ireturn) 1 40 := ⟨by decide +kernel, rfl⟩
def B16 : Bdy := ((⟨"CausalStable", "copyIndex", "(III)I"⟩ : MethodName), prog_1_method_6_code, 4, (some .int), ({ frames := 0, cells := 0, slots := 0, locals := 0 } : Room))
theorem d16_0 : DAt B16 0 (.iload_n 1) 1 1 := ⟨by decide +kernel, rfl⟩
theorem d16_1 : DAt B16 1 (.bipush 8) 2 3 := ⟨by decide +kernel, rfl⟩
theorem d16_3 : DAt B16 3 (.imul) 1 4 := ⟨by decide +kernel, rfl⟩
theorem d16_4 : DAt B16 4 (.iload_n 2) 1 5 := ⟨by decide +kernel, rfl⟩
theorem d16_5 : DAt B16 5 (.iadd) 1 6 := ⟨by decide +kernel, rfl⟩
theorem d16_6 : DAt B16 6 (.iconst 1) 1 7 := ⟨by decide +kernel, rfl⟩
theorem d16_7 : DAt B16 7 (.isub) 1 8 := ⟨by decide +kernel, rfl⟩
theorem d16_8 : DAt B16 8 (.bipush 8) 2 10 := ⟨by decide +kernel, rfl⟩
theorem d16_10 : DAt B16 10 (.imul) 1 11 := ⟨by decide +kernel, rfl⟩
theorem d16_11 : DAt B16 11 (.iload_n 3) 1 12 := ⟨by decide +kernel, rfl⟩
theorem d16_12 : DAt B16 12 (.iadd) 1 13 := ⟨by decide +kernel, rfl⟩
theorem d16_13 : DAt B16 13 (.ireturn) 1 14 := ⟨by decide +kernel, rfl⟩
def B7 : Bdy := ((⟨"CausalStable", "copies", "(III)I"⟩ : MethodName), prog_1_method_23_code, 5, (some .int), ({ frames := 1, cells := 0, slots := 0, locals := 15 } : Room))
theorem d7_0 : DAt B7 0 (.aload_n 0) 1 1 := ⟨by decide +kernel, rfl⟩
theorem d7_1 : DAt B7 1 (.iload_n 1) 1 2 := ⟨by decide +kernel, rfl⟩
theorem d7_2 : DAt B7 2 (.iload_n 2) 1 3 := ⟨by decide +kernel, rfl⟩
theorem d7_3 : DAt B7 3 (.invokevirtual 52) 3 6 := ⟨by decide +kernel, rfl⟩
theorem d7_6 : DAt B7 6 (.ifCond .eq 11) 3 9 := ⟨by decide +kernel, rfl⟩
theorem d7_9 : DAt B7 9 (.aload_n 0) 1 10 := ⟨by decide +kernel, rfl⟩
theorem d7_10 : DAt B7 10 (.iload_n 3) 1 11 := ⟨by decide +kernel, rfl⟩
theorem d7_11 : DAt B7 11 (.invokevirtual 68) 3 14 := ⟨by decide +kernel, rfl⟩
theorem d7_14 : DAt B7 14 (.ifCond .ne 5) 3 17 := ⟨by decide +kernel, rfl⟩
theorem d7_17 : DAt B7 17 (.iconst (-1)) 1 18 := ⟨by decide +kernel, rfl⟩
theorem d7_18 : DAt B7 18 (.ireturn) 1 19 := ⟨by decide +kernel, rfl⟩
theorem d7_19 : DAt B7 19 (.aload_n 0) 1 20 := ⟨by decide +kernel, rfl⟩
theorem d7_20 : DAt B7 20 (.iload_n 1) 1 21 := ⟨by decide +kernel, rfl⟩
theorem d7_21 : DAt B7 21 (.iload_n 2) 1 22 := ⟨by decide +kernel, rfl⟩
theorem d7_22 : DAt B7 22 (.iload_n 3) 1 23 := ⟨by decide +kernel, rfl⟩
theorem d7_23 : DAt B7 23 (.invokevirtual 72) 3 26 := ⟨by decide +kernel, rfl⟩
theorem d7_26 : DAt B7 26 (.istore 4) 2 28 := ⟨by decide +kernel, rfl⟩
theorem d7_28 : DAt B7 28 (.aload_n 0) 1 29 := ⟨by decide +kernel, rfl⟩
theorem d7_29 : DAt B7 29 (.getfield 26) 3 32 := ⟨by decide +kernel, rfl⟩
theorem d7_32 : DAt B7 32 (.iload 4) 2 34 := ⟨by decide +kernel, rfl⟩
theorem d7_34 : DAt B7 34 (.iaload) 1 35 := ⟨by decide +kernel, rfl⟩
theorem d7_35 : DAt B7 35 (.ireturn) 1 36 := ⟨by decide +kernel, rfl⟩
def B8 : Bdy := ((⟨"CausalStable", "state", "(III)I"⟩ : MethodName), prog_1_method_24_code, 5, (some .int), ({ frames := 1, cells := 0, slots := 0, locals := 15 } : Room))
theorem d8_0 : DAt B8 0 (.aload_n 0) 1 1 := ⟨by decide +kernel, rfl⟩
theorem d8_1 : DAt B8 1 (.iload_n 1) 1 2 := ⟨by decide +kernel, rfl⟩
theorem d8_2 : DAt B8 2 (.invokevirtual 68) 3 5 := ⟨by decide +kernel, rfl⟩
theorem d8_5 : DAt B8 5 (.ifCond .eq 12) 3 8 := ⟨by decide +kernel, rfl⟩
theorem d8_8 : DAt B8 8 (.aload_n 0) 1 9 := ⟨by decide +kernel, rfl⟩
theorem d8_9 : DAt B8 9 (.iload_n 2) 1 10 := ⟨by decide +kernel, rfl⟩
theorem d8_10 : DAt B8 10 (.iload_n 3) 1 11 := ⟨by decide +kernel, rfl⟩
theorem d8_11 : DAt B8 11 (.invokevirtual 52) 3 14 := ⟨by decide +kernel, rfl⟩
theorem d8_14 : DAt B8 14 (.ifCond .ne 5) 3 17 := ⟨by decide +kernel, rfl⟩
theorem d8_17 : DAt B8 17 (.iconst (-1)) 1 18 := ⟨by decide +kernel, rfl⟩
theorem d8_18 : DAt B8 18 (.ireturn) 1 19 := ⟨by decide +kernel, rfl⟩
theorem d8_19 : DAt B8 19 (.aload_n 0) 1 20 := ⟨by decide +kernel, rfl⟩
theorem d8_20 : DAt B8 20 (.iload_n 1) 1 21 := ⟨by decide +kernel, rfl⟩
theorem d8_21 : DAt B8 21 (.iload_n 2) 1 22 := ⟨by decide +kernel, rfl⟩
theorem d8_22 : DAt B8 22 (.iload_n 3) 1 23 := ⟨by decide +kernel, rfl⟩
theorem d8_23 : DAt B8 23 (.invokevirtual 45) 3 26 := ⟨by decide +kernel, rfl⟩
theorem d8_26 : DAt B8 26 (.istore 4) 2 28 := ⟨by decide +kernel, rfl⟩
theorem d8_28 : DAt B8 28 (.aload_n 0) 1 29 := ⟨by decide +kernel, rfl⟩
theorem d8_29 : DAt B8 29 (.getfield 20) 3 32 := ⟨by decide +kernel, rfl⟩
theorem d8_32 : DAt B8 32 (.iload 4) 2 34 := ⟨by decide +kernel, rfl⟩
theorem d8_34 : DAt B8 34 (.iaload) 1 35 := ⟨by decide +kernel, rfl⟩
theorem d8_35 : DAt B8 35 (.ireturn) 1 36 := ⟨by decide +kernel, rfl⟩
def B9 : Bdy := ((⟨"CausalStable", "delivered", "(II)I"⟩ : MethodName), prog_1_method_25_code, 3, (some .int), ({ frames := 1, cells := 0, slots := 0, locals := 13 } : Room))
theorem d9_0 : DAt B9 0 (.aload_n 0) 1 1 := ⟨by decide +kernel, rfl⟩
theorem d9_1 : DAt B9 1 (.iload_n 1) 1 2 := ⟨by decide +kernel, rfl⟩
theorem d9_2 : DAt B9 2 (.invokevirtual 68) 3 5 := ⟨by decide +kernel, rfl⟩
theorem d9_5 : DAt B9 5 (.ifCond .eq 11) 3 8 := ⟨by decide +kernel, rfl⟩
theorem d9_8 : DAt B9 8 (.aload_n 0) 1 9 := ⟨by decide +kernel, rfl⟩
theorem d9_9 : DAt B9 9 (.iload_n 2) 1 10 := ⟨by decide +kernel, rfl⟩
theorem d9_10 : DAt B9 10 (.invokevirtual 68) 3 13 := ⟨by decide +kernel, rfl⟩
theorem d9_13 : DAt B9 13 (.ifCond .ne 5) 3 16 := ⟨by decide +kernel, rfl⟩
theorem d9_16 : DAt B9 16 (.iconst (-1)) 1 17 := ⟨by decide +kernel, rfl⟩
theorem d9_17 : DAt B9 17 (.ireturn) 1 18 := ⟨by decide +kernel, rfl⟩
theorem d9_18 : DAt B9 18 (.aload_n 0) 1 19 := ⟨by decide +kernel, rfl⟩
theorem d9_19 : DAt B9 19 (.getfield 17) 3 22 := ⟨by decide +kernel, rfl⟩
theorem d9_22 : DAt B9 22 (.iload_n 1) 1 23 := ⟨by decide +kernel, rfl⟩
theorem d9_23 : DAt B9 23 (.bipush 8) 2 25 := ⟨by decide +kernel, rfl⟩
theorem d9_25 : DAt B9 25 (.imul) 1 26 := ⟨by decide +kernel, rfl⟩
theorem d9_26 : DAt B9 26 (.iload_n 2) 1 27 := ⟨by decide +kernel, rfl⟩
theorem d9_27 : DAt B9 27 (.iadd) 1 28 := ⟨by decide +kernel, rfl⟩
theorem d9_28 : DAt B9 28 (.iaload) 1 29 := ⟨by decide +kernel, rfl⟩
theorem d9_29 : DAt B9 29 (.ireturn) 1 30 := ⟨by decide +kernel, rfl⟩
def B10 : Bdy := ((⟨"CausalStable", "deliveredAt", "(II)I"⟩ : MethodName), prog_1_method_26_code, 3, (some .int), ({ frames := 1, cells := 0, slots := 0, locals := 13 } : Room))
theorem d10_0 : DAt B10 0 (.aload_n 0) 1 1 := ⟨by decide +kernel, rfl⟩
theorem d10_1 : DAt B10 1 (.iload_n 1) 1 2 := ⟨by decide +kernel, rfl⟩
theorem d10_2 : DAt B10 2 (.invokevirtual 68) 3 5 := ⟨by decide +kernel, rfl⟩
theorem d10_5 : DAt B10 5 (.ifCond .ne 5) 3 8 := ⟨by decide +kernel, rfl⟩
theorem d10_8 : DAt B10 8 (.iconst (-1)) 1 9 := ⟨by decide +kernel, rfl⟩
theorem d10_9 : DAt B10 9 (.ireturn) 1 10 := ⟨by decide +kernel, rfl⟩
theorem d10_10 : DAt B10 10 (.iload_n 2) 1 11 := ⟨by decide +kernel, rfl⟩
theorem d10_11 : DAt B10 11 (.ifCond .lt 19) 3 14 := ⟨by decide +kernel, rfl⟩
theorem d10_14 : DAt B10 14 (.iload_n 2) 1 15 := ⟨by decide +kernel, rfl⟩
theorem d10_15 : DAt B10 15 (.aload_n 0) 1 16 := ⟨by decide +kernel, rfl⟩
theorem d10_16 : DAt B10 16 (.getfield 35) 3 19 := ⟨by decide +kernel, rfl⟩
theorem d10_19 : DAt B10 19 (.iload_n 1) 1 20 := ⟨by decide +kernel, rfl⟩
theorem d10_20 : DAt B10 20 (.iaload) 1 21 := ⟨by decide +kernel, rfl⟩
theorem d10_21 : DAt B10 21 (.if_icmp .ge 9) 3 24 := ⟨by decide +kernel, rfl⟩
theorem d10_24 : DAt B10 24 (.iload_n 2) 1 25 := ⟨by decide +kernel, rfl⟩
theorem d10_25 : DAt B10 25 (.bipush 64) 2 27 := ⟨by decide +kernel, rfl⟩
theorem d10_27 : DAt B10 27 (.if_icmp .lt 5) 3 30 := ⟨by decide +kernel, rfl⟩
theorem d10_30 : DAt B10 30 (.iconst (-1)) 1 31 := ⟨by decide +kernel, rfl⟩
theorem d10_31 : DAt B10 31 (.ireturn) 1 32 := ⟨by decide +kernel, rfl⟩
theorem d10_32 : DAt B10 32 (.aload_n 0) 1 33 := ⟨by decide +kernel, rfl⟩
theorem d10_33 : DAt B10 33 (.getfield 32) 3 36 := ⟨by decide +kernel, rfl⟩
theorem d10_36 : DAt B10 36 (.iload_n 1) 1 37 := ⟨by decide +kernel, rfl⟩
theorem d10_37 : DAt B10 37 (.bipush 64) 2 39 := ⟨by decide +kernel, rfl⟩
theorem d10_39 : DAt B10 39 (.imul) 1 40 := ⟨by decide +kernel, rfl⟩
theorem d10_40 : DAt B10 40 (.iload_n 2) 1 41 := ⟨by decide +kernel, rfl⟩
theorem d10_41 : DAt B10 41 (.iadd) 1 42 := ⟨by decide +kernel, rfl⟩
theorem d10_42 : DAt B10 42 (.iaload) 1 43 := ⟨by decide +kernel, rfl⟩
theorem d10_43 : DAt B10 43 (.ireturn) 1 44 := ⟨by decide +kernel, rfl⟩
def B11 : Bdy := ((⟨"CausalStable", "known", "(III)I"⟩ : MethodName), prog_1_method_27_code, 5, (some .int), ({ frames := 1, cells := 0, slots := 0, locals := 15 } : Room))
theorem d11_0 : DAt B11 0 (.aload_n 0) 1 1 := ⟨by decide +kernel, rfl⟩
theorem d11_1 : DAt B11 1 (.iload_n 1) 1 2 := ⟨by decide +kernel, rfl⟩
theorem d11_2 : DAt B11 2 (.invokevirtual 68) 3 5 := ⟨by decide +kernel, rfl⟩
theorem d11_5 : DAt B11 5 (.ifCond .eq 19) 3 8 := ⟨by decide +kernel, rfl⟩
theorem d11_8 : DAt B11 8 (.aload_n 0) 1 9 := ⟨by decide +kernel, rfl⟩
theorem d11_9 : DAt B11 9 (.iload_n 2) 1 10 := ⟨by decide +kernel, rfl⟩
theorem d11_10 : DAt B11 10 (.invokevirtual 68) 3 13 := ⟨by decide +kernel, rfl⟩
theorem d11_13 : DAt B11 13 (.ifCond .eq 11) 3 16 := ⟨by decide +kernel, rfl⟩
theorem d11_16 : DAt B11 16 (.aload_n 0) 1 17 := ⟨by decide +kernel, rfl⟩
theorem d11_17 : DAt B11 17 (.iload_n 3) 1 18 := ⟨by decide +kernel, rfl⟩
theorem d11_18 : DAt B11 18 (.invokevirtual 68) 3 21 := ⟨by decide +kernel, rfl⟩
theorem d11_21 : DAt B11 21 (.ifCond .ne 5) 3 24 := ⟨by decide +kernel, rfl⟩
theorem d11_24 : DAt B11 24 (.iconst (-1)) 1 25 := ⟨by decide +kernel, rfl⟩
theorem d11_25 : DAt B11 25 (.ireturn) 1 26 := ⟨by decide +kernel, rfl⟩
theorem d11_26 : DAt B11 26 (.aload_n 0) 1 27 := ⟨by decide +kernel, rfl⟩
theorem d11_27 : DAt B11 27 (.iload_n 1) 1 28 := ⟨by decide +kernel, rfl⟩
theorem d11_28 : DAt B11 28 (.iload_n 2) 1 29 := ⟨by decide +kernel, rfl⟩
theorem d11_29 : DAt B11 29 (.iload_n 3) 1 30 := ⟨by decide +kernel, rfl⟩
theorem d11_30 : DAt B11 30 (.invokevirtual 49) 3 33 := ⟨by decide +kernel, rfl⟩
theorem d11_33 : DAt B11 33 (.istore 4) 2 35 := ⟨by decide +kernel, rfl⟩
theorem d11_35 : DAt B11 35 (.aload_n 0) 1 36 := ⟨by decide +kernel, rfl⟩
theorem d11_36 : DAt B11 36 (.getfield 29) 3 39 := ⟨by decide +kernel, rfl⟩
theorem d11_39 : DAt B11 39 (.iload 4) 2 41 := ⟨by decide +kernel, rfl⟩
theorem d11_41 : DAt B11 41 (.iaload) 1 42 := ⟨by decide +kernel, rfl⟩
theorem d11_42 : DAt B11 42 (.ireturn) 1 43 := ⟨by decide +kernel, rfl⟩
def B0 : Bdy := (x, code, maxLocals, ret, room_1)
theorem d0_0 : DAt B0 0 (.new 7) 3 3 := ⟨at_0, rfl⟩
theorem d0_3 : DAt B0 3 (.dup) 1 4 := ⟨at_3, rfl⟩
theorem d0_4 : DAt B0 4 (.iload_n 0) 1 5 := ⟨at_4, rfl⟩
theorem d0_5 : DAt B0 5 (.iconst 1) 1 6 := ⟨at_5, rfl⟩
theorem d0_6 : DAt B0 6 (.invokespecial 9) 3 9 := ⟨at_6, rfl⟩
theorem d0_9 : DAt B0 9 (.astore 4) 2 11 := ⟨at_9, rfl⟩
theorem d0_11 : DAt B0 11 (.iload_n 0) 1 12 := ⟨at_11, rfl⟩
theorem d0_12 : DAt B0 12 (.iconst 2) 1 13 := ⟨at_12, rfl⟩
theorem d0_13 : DAt B0 13 (.if_icmp .ge 7) 3 16 := ⟨at_13, rfl⟩
theorem d0_16 : DAt B0 16 (.iconst 2) 1 17 := ⟨at_16, rfl⟩
theorem d0_17 : DAt B0 17 (.goto 15) 3 20 := ⟨at_17, rfl⟩
theorem d0_20 : DAt B0 20 (.iload_n 0) 1 21 := ⟨at_20, rfl⟩
theorem d0_21 : DAt B0 21 (.bipush 8) 2 23 := ⟨at_21, rfl⟩
theorem d0_23 : DAt B0 23 (.if_icmp .le 8) 3 26 := ⟨at_23, rfl⟩
theorem d0_26 : DAt B0 26 (.bipush 8) 2 28 := ⟨at_26, rfl⟩
theorem d0_28 : DAt B0 28 (.goto 4) 3 31 := ⟨at_28, rfl⟩
theorem d0_31 : DAt B0 31 (.iload_n 0) 1 32 := ⟨at_31, rfl⟩
theorem d0_32 : DAt B0 32 (.istore 5) 2 34 := ⟨at_32, rfl⟩
theorem d0_34 : DAt B0 34 (.iload_n 1) 1 35 := ⟨at_34, rfl⟩
theorem d0_35 : DAt B0 35 (.ifCond .lt 13) 3 38 := ⟨at_35, rfl⟩
theorem d0_38 : DAt B0 38 (.iload_n 1) 1 39 := ⟨at_38, rfl⟩
theorem d0_39 : DAt B0 39 (.iload 5) 2 41 := ⟨at_39, rfl⟩
theorem d0_41 : DAt B0 41 (.if_icmp .ge 7) 3 44 := ⟨at_41, rfl⟩
theorem d0_44 : DAt B0 44 (.iconst 1) 1 45 := ⟨at_44, rfl⟩
theorem d0_45 : DAt B0 45 (.goto 4) 3 48 := ⟨at_45, rfl⟩
theorem d0_48 : DAt B0 48 (.iconst 0) 1 49 := ⟨at_48, rfl⟩
theorem d0_49 : DAt B0 49 (.istore 6) 2 51 := ⟨at_49, rfl⟩
theorem d0_51 : DAt B0 51 (.iload_n 2) 1 52 := ⟨at_51, rfl⟩
theorem d0_52 : DAt B0 52 (.ifCond .lt 13) 3 55 := ⟨at_52, rfl⟩
theorem d0_55 : DAt B0 55 (.iload_n 2) 1 56 := ⟨at_55, rfl⟩
theorem d0_56 : DAt B0 56 (.iload 5) 2 58 := ⟨at_56, rfl⟩
theorem d0_58 : DAt B0 58 (.if_icmp .ge 7) 3 61 := ⟨at_58, rfl⟩
theorem d0_61 : DAt B0 61 (.iconst 1) 1 62 := ⟨at_61, rfl⟩
theorem d0_62 : DAt B0 62 (.goto 4) 3 65 := ⟨at_62, rfl⟩
theorem d0_65 : DAt B0 65 (.iconst 0) 1 66 := ⟨at_65, rfl⟩
theorem d0_66 : DAt B0 66 (.istore 7) 2 68 := ⟨at_66, rfl⟩
theorem d0_68 : DAt B0 68 (.iload_n 3) 1 69 := ⟨at_68, rfl⟩
theorem d0_69 : DAt B0 69 (.ifCond .lt 13) 3 72 := ⟨at_69, rfl⟩
theorem d0_72 : DAt B0 72 (.iload_n 3) 1 73 := ⟨at_72, rfl⟩
theorem d0_73 : DAt B0 73 (.iload 5) 2 75 := ⟨at_73, rfl⟩
theorem d0_75 : DAt B0 75 (.if_icmp .ge 7) 3 78 := ⟨at_75, rfl⟩
theorem d0_78 : DAt B0 78 (.iconst 1) 1 79 := ⟨at_78, rfl⟩
theorem d0_79 : DAt B0 79 (.goto 4) 3 82 := ⟨at_79, rfl⟩
theorem d0_82 : DAt B0 82 (.iconst 0) 1 83 := ⟨at_82, rfl⟩
theorem d0_83 : DAt B0 83 (.istore 8) 2 85 := ⟨at_83, rfl⟩
theorem d0_85 : DAt B0 85 (.iload 6) 2 87 := ⟨at_85, rfl⟩
theorem d0_87 : DAt B0 87 (.ifCond .eq 7) 3 90 := ⟨at_87, rfl⟩
theorem d0_90 : DAt B0 90 (.iconst 1) 1 91 := ⟨at_90, rfl⟩
theorem d0_91 : DAt B0 91 (.goto 4) 3 94 := ⟨at_91, rfl⟩
theorem d0_94 : DAt B0 94 (.iconst (-1)) 1 95 := ⟨at_94, rfl⟩
theorem d0_95 : DAt B0 95 (.istore 9) 2 97 := ⟨at_95, rfl⟩
theorem d0_97 : DAt B0 97 (.iload 6) 2 99 := ⟨at_97, rfl⟩
theorem d0_99 : DAt B0 99 (.ifCond .eq 8) 3 102 := ⟨at_99, rfl⟩
theorem d0_102 : DAt B0 102 (.iload 8) 2 104 := ⟨at_102, rfl⟩
theorem d0_104 : DAt B0 104 (.ifCond .ne 7) 3 107 := ⟨at_104, rfl⟩
theorem d0_107 : DAt B0 107 (.iconst (-1)) 1 108 := ⟨at_107, rfl⟩
theorem d0_108 : DAt B0 108 (.goto 13) 3 111 := ⟨at_108, rfl⟩
theorem d0_111 : DAt B0 111 (.iload_n 3) 1 112 := ⟨at_111, rfl⟩
theorem d0_112 : DAt B0 112 (.iload_n 1) 1 113 := ⟨at_112, rfl⟩
theorem d0_113 : DAt B0 113 (.if_icmp .ne 7) 3 116 := ⟨at_113, rfl⟩
theorem d0_116 : DAt B0 116 (.iconst 1) 1 117 := ⟨at_116, rfl⟩
theorem d0_117 : DAt B0 117 (.goto 4) 3 120 := ⟨at_117, rfl⟩
theorem d0_120 : DAt B0 120 (.iconst 0) 1 121 := ⟨at_120, rfl⟩
theorem d0_121 : DAt B0 121 (.istore 10) 2 123 := ⟨at_121, rfl⟩
theorem d0_123 : DAt B0 123 (.iload 6) 2 125 := ⟨at_123, rfl⟩
theorem d0_125 : DAt B0 125 (.ifCond .eq 8) 3 128 := ⟨at_125, rfl⟩
theorem d0_128 : DAt B0 128 (.iload 7) 2 130 := ⟨at_128, rfl⟩
theorem d0_130 : DAt B0 130 (.ifCond .ne 7) 3 133 := ⟨at_130, rfl⟩
theorem d0_133 : DAt B0 133 (.iconst (-1)) 1 134 := ⟨at_133, rfl⟩
theorem d0_134 : DAt B0 134 (.goto 13) 3 137 := ⟨at_134, rfl⟩
theorem d0_137 : DAt B0 137 (.iload_n 2) 1 138 := ⟨at_137, rfl⟩
theorem d0_138 : DAt B0 138 (.iload_n 1) 1 139 := ⟨at_138, rfl⟩
theorem d0_139 : DAt B0 139 (.if_icmp .ne 7) 3 142 := ⟨at_139, rfl⟩
theorem d0_142 : DAt B0 142 (.iconst 0) 1 143 := ⟨at_142, rfl⟩
theorem d0_143 : DAt B0 143 (.goto 4) 3 146 := ⟨at_143, rfl⟩
theorem d0_146 : DAt B0 146 (.iconst 1) 1 147 := ⟨at_146, rfl⟩
theorem d0_147 : DAt B0 147 (.istore 11) 2 149 := ⟨at_147, rfl⟩
theorem d0_149 : DAt B0 149 (.iload 6) 2 151 := ⟨at_149, rfl⟩
theorem d0_151 : DAt B0 151 (.ifCond .eq 8) 3 154 := ⟨at_151, rfl⟩
theorem d0_154 : DAt B0 154 (.iload 7) 2 156 := ⟨at_154, rfl⟩
theorem d0_156 : DAt B0 156 (.ifCond .ne 7) 3 159 := ⟨at_156, rfl⟩
theorem d0_159 : DAt B0 159 (.iconst (-1)) 1 160 := ⟨at_159, rfl⟩
theorem d0_160 : DAt B0 160 (.goto 13) 3 163 := ⟨at_160, rfl⟩
theorem d0_163 : DAt B0 163 (.iload_n 2) 1 164 := ⟨at_163, rfl⟩
theorem d0_164 : DAt B0 164 (.iload_n 1) 1 165 := ⟨at_164, rfl⟩
theorem d0_165 : DAt B0 165 (.if_icmp .ne 7) 3 168 := ⟨at_165, rfl⟩
theorem d0_168 : DAt B0 168 (.iconst 2) 1 169 := ⟨at_168, rfl⟩
theorem d0_169 : DAt B0 169 (.goto 4) 3 172 := ⟨at_169, rfl⟩
theorem d0_172 : DAt B0 172 (.iconst 0) 1 173 := ⟨at_172, rfl⟩
theorem d0_173 : DAt B0 173 (.istore 12) 2 175 := ⟨at_173, rfl⟩
theorem d0_175 : DAt B0 175 (.iload 7) 2 177 := ⟨at_175, rfl⟩
theorem d0_177 : DAt B0 177 (.ifCond .ne 7) 3 180 := ⟨at_177, rfl⟩
theorem d0_180 : DAt B0 180 (.iconst (-1)) 1 181 := ⟨at_180, rfl⟩
theorem d0_181 : DAt B0 181 (.goto 18) 3 184 := ⟨at_181, rfl⟩
theorem d0_184 : DAt B0 184 (.iload 6) 2 186 := ⟨at_184, rfl⟩
theorem d0_186 : DAt B0 186 (.ifCond .eq 12) 3 189 := ⟨at_186, rfl⟩
theorem d0_189 : DAt B0 189 (.iload_n 2) 1 190 := ⟨at_189, rfl⟩
theorem d0_190 : DAt B0 190 (.iload_n 1) 1 191 := ⟨at_190, rfl⟩
theorem d0_191 : DAt B0 191 (.if_icmp .ne 7) 3 194 := ⟨at_191, rfl⟩
theorem d0_194 : DAt B0 194 (.iconst 1) 1 195 := ⟨at_194, rfl⟩
theorem d0_195 : DAt B0 195 (.goto 4) 3 198 := ⟨at_195, rfl⟩
theorem d0_198 : DAt B0 198 (.iconst 0) 1 199 := ⟨at_198, rfl⟩
theorem d0_199 : DAt B0 199 (.istore 13) 2 201 := ⟨at_199, rfl⟩
theorem d0_201 : DAt B0 201 (.iload 6) 2 203 := ⟨at_201, rfl⟩
theorem d0_203 : DAt B0 203 (.ifCond .eq 12) 3 206 := ⟨at_203, rfl⟩
theorem d0_206 : DAt B0 206 (.iload_n 1) 1 207 := ⟨at_206, rfl⟩
theorem d0_207 : DAt B0 207 (.bipush 16) 2 209 := ⟨at_207, rfl⟩
theorem d0_209 : DAt B0 209 (.imul) 1 210 := ⟨at_209, rfl⟩
theorem d0_210 : DAt B0 210 (.iconst 1) 1 211 := ⟨at_210, rfl⟩
theorem d0_211 : DAt B0 211 (.iadd) 1 212 := ⟨at_211, rfl⟩
theorem d0_212 : DAt B0 212 (.goto 4) 3 215 := ⟨at_212, rfl⟩
theorem d0_215 : DAt B0 215 (.iconst (-1)) 1 216 := ⟨at_215, rfl⟩
theorem d0_216 : DAt B0 216 (.istore 14) 2 218 := ⟨at_216, rfl⟩
theorem d0_218 : DAt B0 218 (.aload 4) 2 220 := ⟨at_218, rfl⟩
theorem d0_220 : DAt B0 220 (.iload_n 1) 1 221 := ⟨at_220, rfl⟩
theorem d0_221 : DAt B0 221 (.invokevirtual 12) 3 224 := ⟨at_221, rfl⟩
theorem d0_224 : DAt B0 224 (.istore 15) 2 226 := ⟨at_224, rfl⟩
theorem d0_226 : DAt B0 226 (.iload 15) 2 228 := ⟨at_226, rfl⟩
theorem d0_228 : DAt B0 228 (.iload 6) 2 230 := ⟨at_228, rfl⟩
theorem d0_230 : DAt B0 230 (.ifCond .eq 7) 3 233 := ⟨at_230, rfl⟩
theorem d0_233 : DAt B0 233 (.iconst 1) 1 234 := ⟨at_233, rfl⟩
theorem d0_234 : DAt B0 234 (.goto 4) 3 237 := ⟨at_234, rfl⟩
theorem d0_237 : DAt B0 237 (.iconst (-1)) 1 238 := ⟨at_237, rfl⟩
theorem d0_238 : DAt B0 238 (.if_icmp .eq 5) 3 241 := ⟨at_238, rfl⟩
theorem d0_241 : DAt B0 241 (.iconst 0) 1 242 := ⟨at_241, rfl⟩
theorem d0_242 : DAt B0 242 (.ireturn) 1 243 := ⟨at_242, rfl⟩
theorem d0_243 : DAt B0 243 (.aload 4) 2 245 := ⟨at_243, rfl⟩
theorem d0_245 : DAt B0 245 (.iload_n 1) 1 246 := ⟨at_245, rfl⟩
theorem d0_246 : DAt B0 246 (.invokevirtual 16) 3 249 := ⟨at_246, rfl⟩
theorem d0_249 : DAt B0 249 (.iload 9) 2 251 := ⟨at_249, rfl⟩
theorem d0_251 : DAt B0 251 (.if_icmp .eq 5) 3 254 := ⟨at_251, rfl⟩
theorem d0_254 : DAt B0 254 (.iconst 0) 1 255 := ⟨at_254, rfl⟩
theorem d0_255 : DAt B0 255 (.ireturn) 1 256 := ⟨at_255, rfl⟩
theorem d0_256 : DAt B0 256 (.aload 4) 2 258 := ⟨at_256, rfl⟩
theorem d0_258 : DAt B0 258 (.iload_n 1) 1 259 := ⟨at_258, rfl⟩
theorem d0_259 : DAt B0 259 (.iconst 1) 1 260 := ⟨at_259, rfl⟩
theorem d0_260 : DAt B0 260 (.iload_n 3) 1 261 := ⟨at_260, rfl⟩
theorem d0_261 : DAt B0 261 (.invokevirtual 19) 3 264 := ⟨at_261, rfl⟩
theorem d0_264 : DAt B0 264 (.iload 10) 2 266 := ⟨at_264, rfl⟩
theorem d0_266 : DAt B0 266 (.if_icmp .eq 5) 3 269 := ⟨at_266, rfl⟩
theorem d0_269 : DAt B0 269 (.iconst 0) 1 270 := ⟨at_269, rfl⟩
theorem d0_270 : DAt B0 270 (.ireturn) 1 271 := ⟨at_270, rfl⟩
theorem d0_271 : DAt B0 271 (.aload 4) 2 273 := ⟨at_271, rfl⟩
theorem d0_273 : DAt B0 273 (.iload_n 1) 1 274 := ⟨at_273, rfl⟩
theorem d0_274 : DAt B0 274 (.iconst 1) 1 275 := ⟨at_274, rfl⟩
theorem d0_275 : DAt B0 275 (.iload_n 2) 1 276 := ⟨at_275, rfl⟩
theorem d0_276 : DAt B0 276 (.invokevirtual 23) 3 279 := ⟨at_276, rfl⟩
theorem d0_279 : DAt B0 279 (.iload 11) 2 281 := ⟨at_279, rfl⟩
theorem d0_281 : DAt B0 281 (.if_icmp .eq 5) 3 284 := ⟨at_281, rfl⟩
theorem d0_284 : DAt B0 284 (.iconst 0) 1 285 := ⟨at_284, rfl⟩
theorem d0_285 : DAt B0 285 (.ireturn) 1 286 := ⟨at_285, rfl⟩
theorem d0_286 : DAt B0 286 (.aload 4) 2 288 := ⟨at_286, rfl⟩
theorem d0_288 : DAt B0 288 (.iload_n 2) 1 289 := ⟨at_288, rfl⟩
theorem d0_289 : DAt B0 289 (.iload_n 1) 1 290 := ⟨at_289, rfl⟩
theorem d0_290 : DAt B0 290 (.iconst 1) 1 291 := ⟨at_290, rfl⟩
theorem d0_291 : DAt B0 291 (.invokevirtual 26) 3 294 := ⟨at_291, rfl⟩
theorem d0_294 : DAt B0 294 (.iload 12) 2 296 := ⟨at_294, rfl⟩
theorem d0_296 : DAt B0 296 (.if_icmp .eq 5) 3 299 := ⟨at_296, rfl⟩
theorem d0_299 : DAt B0 299 (.iconst 0) 1 300 := ⟨at_299, rfl⟩
theorem d0_300 : DAt B0 300 (.ireturn) 1 301 := ⟨at_300, rfl⟩
theorem d0_301 : DAt B0 301 (.aload 4) 2 303 := ⟨at_301, rfl⟩
theorem d0_303 : DAt B0 303 (.iload_n 1) 1 304 := ⟨at_303, rfl⟩
theorem d0_304 : DAt B0 304 (.iload_n 1) 1 305 := ⟨at_304, rfl⟩
theorem d0_305 : DAt B0 305 (.invokevirtual 29) 3 308 := ⟨at_305, rfl⟩
theorem d0_308 : DAt B0 308 (.iload 9) 2 310 := ⟨at_308, rfl⟩
theorem d0_310 : DAt B0 310 (.if_icmp .eq 5) 3 313 := ⟨at_310, rfl⟩
theorem d0_313 : DAt B0 313 (.iconst 0) 1 314 := ⟨at_313, rfl⟩
theorem d0_314 : DAt B0 314 (.ireturn) 1 315 := ⟨at_314, rfl⟩
theorem d0_315 : DAt B0 315 (.aload 4) 2 317 := ⟨at_315, rfl⟩
theorem d0_317 : DAt B0 317 (.iload_n 1) 1 318 := ⟨at_317, rfl⟩
theorem d0_318 : DAt B0 318 (.iconst 0) 1 319 := ⟨at_318, rfl⟩
theorem d0_319 : DAt B0 319 (.invokevirtual 33) 3 322 := ⟨at_319, rfl⟩
theorem d0_322 : DAt B0 322 (.iload 14) 2 324 := ⟨at_322, rfl⟩
theorem d0_324 : DAt B0 324 (.if_icmp .eq 5) 3 327 := ⟨at_324, rfl⟩
theorem d0_327 : DAt B0 327 (.iconst 0) 1 328 := ⟨at_327, rfl⟩
theorem d0_328 : DAt B0 328 (.ireturn) 1 329 := ⟨at_328, rfl⟩
theorem d0_329 : DAt B0 329 (.aload 4) 2 331 := ⟨at_329, rfl⟩
theorem d0_331 : DAt B0 331 (.iload_n 1) 1 332 := ⟨at_331, rfl⟩
theorem d0_332 : DAt B0 332 (.iload_n 1) 1 333 := ⟨at_332, rfl⟩
theorem d0_333 : DAt B0 333 (.iload_n 1) 1 334 := ⟨at_333, rfl⟩
theorem d0_334 : DAt B0 334 (.invokevirtual 36) 3 337 := ⟨at_334, rfl⟩
theorem d0_337 : DAt B0 337 (.iload 9) 2 339 := ⟨at_337, rfl⟩
theorem d0_339 : DAt B0 339 (.if_icmp .eq 5) 3 342 := ⟨at_339, rfl⟩
theorem d0_342 : DAt B0 342 (.iconst 0) 1 343 := ⟨at_342, rfl⟩
theorem d0_343 : DAt B0 343 (.ireturn) 1 344 := ⟨at_343, rfl⟩
theorem d0_344 : DAt B0 344 (.aload 4) 2 346 := ⟨at_344, rfl⟩
theorem d0_346 : DAt B0 346 (.iload_n 2) 1 347 := ⟨at_346, rfl⟩
theorem d0_347 : DAt B0 347 (.invokevirtual 16) 3 350 := ⟨at_347, rfl⟩
theorem d0_350 : DAt B0 350 (.iload 13) 2 352 := ⟨at_350, rfl⟩
theorem d0_352 : DAt B0 352 (.if_icmp .eq 5) 3 355 := ⟨at_352, rfl⟩
theorem d0_355 : DAt B0 355 (.iconst 0) 1 356 := ⟨at_355, rfl⟩
theorem d0_356 : DAt B0 356 (.ireturn) 1 357 := ⟨at_356, rfl⟩
theorem d0_357 : DAt B0 357 (.aload 4) 2 359 := ⟨at_357, rfl⟩
theorem d0_359 : DAt B0 359 (.iload_n 1) 1 360 := ⟨at_359, rfl⟩
theorem d0_360 : DAt B0 360 (.invokevirtual 12) 3 363 := ⟨at_360, rfl⟩
theorem d0_363 : DAt B0 363 (.istore 16) 2 365 := ⟨at_363, rfl⟩
theorem d0_365 : DAt B0 365 (.iload 16) 2 367 := ⟨at_365, rfl⟩
theorem d0_367 : DAt B0 367 (.iload 6) 2 369 := ⟨at_367, rfl⟩
theorem d0_369 : DAt B0 369 (.ifCond .eq 8) 3 372 := ⟨at_369, rfl⟩
theorem d0_372 : DAt B0 372 (.bipush (-3)) 2 374 := ⟨at_372, rfl⟩
theorem d0_374 : DAt B0 374 (.goto 4) 3 377 := ⟨at_374, rfl⟩
theorem d0_377 : DAt B0 377 (.iconst (-1)) 1 378 := ⟨at_377, rfl⟩
theorem d0_378 : DAt B0 378 (.if_icmp .eq 5) 3 381 := ⟨at_378, rfl⟩
theorem d0_381 : DAt B0 381 (.iconst 0) 1 382 := ⟨at_381, rfl⟩
theorem d0_382 : DAt B0 382 (.ireturn) 1 383 := ⟨at_382, rfl⟩
theorem d0_383 : DAt B0 383 (.iconst 1) 1 384 := ⟨at_383, rfl⟩
theorem d0_384 : DAt B0 384 (.ireturn) 1 385 := ⟨at_384, rfl⟩
theorem ar1 : arity B1 2 := ⟨[.int, .int], none, by decide +kernel, rfl⟩
theorem ar2 : arity B2 1 := ⟨[.int], some .int, by decide +kernel, rfl⟩
theorem ar3 : arity B3 1 := ⟨[.int], some .boolean, by decide +kernel, rfl⟩
theorem ar4 : arity B4 1 := ⟨[.int], some .int, by decide +kernel, rfl⟩
theorem ar5 : arity B5 3 := ⟨[.int, .int, .int], some .int, by decide +kernel, rfl⟩
theorem ar6 : arity B6 2 := ⟨[.int, .int], some .boolean, by decide +kernel, rfl⟩
theorem ar7 : arity B7 3 := ⟨[.int, .int, .int], some .int, by decide +kernel, rfl⟩
theorem ar8 : arity B8 3 := ⟨[.int, .int, .int], some .int, by decide +kernel, rfl⟩
theorem ar9 : arity B9 2 := ⟨[.int, .int], some .int, by decide +kernel, rfl⟩
theorem ar10 : arity B10 2 := ⟨[.int, .int], some .int, by decide +kernel, rfl⟩
theorem ar11 : arity B11 3 := ⟨[.int, .int, .int], some .int, by decide +kernel, rfl⟩
theorem ar12 : arity B12 2 := ⟨[.int, .int], some .int, by decide +kernel, rfl⟩
theorem ar13 : arity B13 3 := ⟨[.int, .int, .int], none, by decide +kernel, rfl⟩
theorem ar14 : arity B14 3 := ⟨[.int, .int, .int], some .int, by decide +kernel, rfl⟩
theorem ar15 : arity B15 3 := ⟨[.int, .int, .int], some .int, by decide +kernel, rfl⟩
theorem ar16 : arity B16 3 := ⟨[.int, .int, .int], some .int, by decide +kernel, rfl⟩
theorem cw1 : code_w B1 := ⟨mem1 5 rfl, mem1 2 rfl, by decide⟩
theorem cw2 : code_w B2 := ⟨mem1 37 rfl, mem1 2 rfl, by decide⟩
theorem cw3 : code_w B3 := ⟨mem1 41 rfl, mem1 2 rfl, by decide⟩
theorem cw4 : code_w B4 := ⟨mem1 46 rfl, mem1 2 rfl, by decide⟩
theorem cw5 : code_w B5 := ⟨mem1 51 rfl, mem1 2 rfl, by decide⟩
theorem cw6 : code_w B6 := ⟨mem1 55 rfl, mem1 2 rfl, by decide⟩
theorem cw7 : code_w B7 := ⟨mem1 60 rfl, mem1 2 rfl, by decide⟩
theorem cw8 : code_w B8 := ⟨mem1 65 rfl, mem1 2 rfl, by decide⟩
theorem cw9 : code_w B9 := ⟨mem1 70 rfl, mem1 2 rfl, by decide⟩
theorem cw10 : code_w B10 := ⟨mem1 75 rfl, mem1 2 rfl, by decide⟩
theorem cw11 : code_w B11 := ⟨mem1 80 rfl, mem1 2 rfl, by decide⟩
theorem cw12 : code_w B12 := ⟨mem1 84 rfl, mem1 2 rfl, by decide⟩
theorem cw13 : code_w B13 := ⟨mem1 88 rfl, mem1 2 rfl, by decide⟩
theorem cw14 : code_w B14 := ⟨mem1 92 rfl, mem1 2 rfl, by decide⟩
theorem cw15 : code_w B15 := ⟨mem1 96 rfl, mem1 2 rfl, by decide⟩
theorem cw16 : code_w B16 := ⟨mem1 100 rfl, mem1 2 rfl, by decide⟩
theorem rk0_2_0 : room_ok B0 B2 0 := by decide
theorem rk0_4_0 : room_ok B0 B4 0 := by decide
theorem rk0_5_0 : room_ok B0 B5 0 := by decide
theorem rk0_7_0 : room_ok B0 B7 0 := by decide
theorem rk0_8_0 : room_ok B0 B8 0 := by decide
theorem rk0_9_0 : room_ok B0 B9 0 := by decide
theorem rk0_10_0 : room_ok B0 B10 0 := by decide
theorem rk0_11_0 : room_ok B0 B11 0 := by decide
theorem rk2_3_0 : room_ok B2 B3 0 := by decide
theorem rk2_12_0 : room_ok B2 B12 0 := by decide
theorem rk2_13_0 : room_ok B2 B13 0 := by decide
theorem rk4_3_0 : room_ok B4 B3 0 := by decide
theorem rk5_3_0 : room_ok B5 B3 0 := by decide
theorem rk5_6_0 : room_ok B5 B6 0 := by decide
theorem rk5_12_0 : room_ok B5 B12 0 := by decide
theorem rk7_3_0 : room_ok B7 B3 0 := by decide
theorem rk7_6_0 : room_ok B7 B6 0 := by decide
theorem rk7_16_0 : room_ok B7 B16 0 := by decide
theorem rk8_3_0 : room_ok B8 B3 0 := by decide
theorem rk8_6_0 : room_ok B8 B6 0 := by decide
theorem rk8_14_0 : room_ok B8 B14 0 := by decide
theorem rk9_3_0 : room_ok B9 B3 0 := by decide
theorem rk10_3_0 : room_ok B10 B3 0 := by decide
theorem rk11_3_0 : room_ok B11 B3 0 := by decide
theorem rk11_15_0 : room_ok B11 B15 0 := by decide
theorem rk13_14_0 : room_ok B13 B14 0 := by decide
theorem rk13_15_0 : room_ok B13 B15 0 := by decide
def X_init_b116 (ob : Rec) (i4 : Int32) : Option (Rec) :=
  if (8 : Int32) < i4 then
    some (sI ob 1 (8 : Int32))
  else
    some (sI ob 1 i4)
set_option maxRecDepth 65536 in
set_option maxHeartbeats 4000000 in
theorem X_init_b116_p {C : Ctx} {a : Nat} {H : List (Nat × Nat × Rec)} {res : Rec} (ob : Rec) (i4 : Int32) (hf : X_init_b116 ob i4 = some res) : Runs C B1 9 2648 116 [vr a, vn, vn, vn, vi i4] [] (a + 1 + 9, (a, 9, ob) :: H) (Ans none (a + 1 + 9, (a, 9, res) :: H)) := by
  delta X_init_b116 at hf
  refine Runs.iload d1_116 rfl <| Runs.bipush d1_118 cb_8 <| ?_
  refine ite_el hf (fun hc3 hf => ?_) (fun hc3 hf => ?_)
  · refine Runs.icN d1_120 (tlt hc3).2.2.2 <| ?_
    obtain rfl := Option.some.inj hf
    exact Runs.bipush d1_123 cb_8 <| Runs.istore (P' := [vr a, vn, vn, vn, vi (8 : Int32)]) d1_125 (by decide) rfl <| Runs.aloadN d1_127 rfl <| Runs.iload d1_128 rfl <| Runs.putI d1_130 w31 fS_1 (Or.inl w32) <| Runs.retV d1_133 rfl ⟨by decide, by decide⟩ ⟨rfl, rfl⟩
  · refine Runs.icY (pc' := 127) d1_120 (flt hc3).2.2.2 (by decide) <| ?_
    obtain rfl := Option.some.inj hf
    exact Runs.aloadN d1_127 rfl <| Runs.iload d1_128 rfl <| Runs.putI d1_130 w31 fS_1 (Or.inl w32) <| Runs.retV d1_133 rfl ⟨by decide, by decide⟩ ⟨rfl, rfl⟩
def X_init_b99 (ob : Rec) (i2 : Int32) (i3 : Int32) : Option (Rec) :=
  if i2 < (1 : Int32) then
    X_init_b116 (sI ob 0 i3) (1 : Int32)
  else
    X_init_b116 (sI ob 0 i3) i2
set_option maxRecDepth 65536 in
set_option maxHeartbeats 4000000 in
theorem X_init_b99_p {C : Ctx} {a : Nat} {H : List (Nat × Nat × Rec)} {res : Rec} (ob : Rec) (i2 : Int32) (i3 : Int32) (hf : X_init_b99 ob i2 i3 = some res) : Runs C B1 9 2648 99 [vr a, vn, vi i2, vi i3, vn] [] (a + 1 + 9, (a, 9, ob) :: H) (Ans none (a + 1 + 9, (a, 9, res) :: H)) := by
  delta X_init_b99 at hf
  refine Runs.aloadN d1_99 rfl <| Runs.iloadN d1_100 rfl <| Runs.putI d1_101 w29 fS_0 (Or.inl w30) <| Runs.iloadN d1_104 rfl <| Runs.istore (P' := [vr a, vn, vi i2, vi i3, vi i2]) d1_105 (by decide) rfl <| Runs.iload d1_107 rfl <| Runs.iconst d1_109 ci_1 <| ?_
  refine ite_el hf (fun hc2 hf => ?_) (fun hc2 hf => ?_)
  · refine Runs.icN d1_110 (tlt hc2).2.1 <| ?_
    exact Runs.iconst d1_113 ci_1 <| Runs.istore (P' := [vr a, vn, vi i2, vi i3, vi (1 : Int32)]) d1_114 (by decide) rfl <| Runs.forget [true, false, false, false, true] rfl <| X_init_b116_p (sI ob 0 i3) (1 : Int32) hf
  · exact Runs.icY (pc' := 116) d1_110 (flt hc2).2.1 (by decide) <| Runs.forget [true, false, false, false, true] rfl <| X_init_b116_p (sI ob 0 i3) i2 hf
def X_init_b90 (ob : Rec) (i2 : Int32) (i3 : Int32) : Option (Rec) :=
  if (8 : Int32) < i3 then
    X_init_b99 ob i2 (8 : Int32)
  else
    X_init_b99 ob i2 i3
set_option maxRecDepth 65536 in
set_option maxHeartbeats 4000000 in
theorem X_init_b90_p {C : Ctx} {a : Nat} {H : List (Nat × Nat × Rec)} {res : Rec} (ob : Rec) (i2 : Int32) (i3 : Int32) (hf : X_init_b90 ob i2 i3 = some res) : Runs C B1 9 2648 90 [vr a, vn, vi i2, vi i3, vn] [] (a + 1 + 9, (a, 9, ob) :: H) (Ans none (a + 1 + 9, (a, 9, res) :: H)) := by
  delta X_init_b90 at hf
  refine Runs.iloadN d1_90 rfl <| Runs.bipush d1_91 cb_8 <| ?_
  refine ite_el hf (fun hc1 hf => ?_) (fun hc1 hf => ?_)
  · refine Runs.icN d1_93 (tlt hc1).2.2.2 <| ?_
    exact Runs.bipush d1_96 cb_8 <| Runs.istoreN (P' := [vr a, vn, vi i2, vi (8 : Int32), vn]) d1_98 (by decide) rfl <| X_init_b99_p ob i2 (8 : Int32) hf
  · exact Runs.icY (pc' := 99) d1_93 (flt hc1).2.2.2 (by decide) <| X_init_b99_p ob i2 i3 hf
def X_init (i1 : Int32) (i2 : Int32) : Option (Rec) :=
  if i1 < (2 : Int32) then
    X_init_b90 zrec i2 (2 : Int32)
  else
    X_init_b90 zrec i2 i1
set_option maxRecDepth 65536 in
set_option maxHeartbeats 4000000 in
theorem X_init_p {C : Ctx} {a : Nat} {H : List (Nat × Nat × Rec)} {res : Rec} (i1 : Int32) (i2 : Int32) (hf : X_init i1 i2 = some res) : Runs C B1 0 0 0 [vr a, vi i1, vi i2, vn, vn] [] (a + 1, (a, 0, zrec) :: H) (Ans none (a + 1 + 9, (a, 9, res) :: H)) := by
  delta X_init at hf
  refine Runs.aloadN d1_0 rfl <| Runs.initO (W := 0) d1_1 w6 w7 w8 rfl (by decide) <| Runs.aloadN d1_4 rfl <| Runs.bipush d1_5 cb_8 <| Runs.newArr (j' := 1) (top' := a + 1 + 1) (k' := 1) (n' := 8) d1_7 d1_9 fA_0 w10 rfl w9 (Or.inl w11) rfl (by decide) ⟨by decide, by decide⟩ ⟨fun _ => rfl, fun _ => rfl⟩ rfl rfl rfl (by decide) <| Runs.aloadN d1_12 rfl <| Runs.bipush d1_13 cb_8 <| Runs.newArr (j' := 2) (top' := a + 1 + 2) (k' := 2) (n' := 16) d1_15 d1_17 fA_1 w13 rfl w12 (Or.inl w14) rfl (by decide) ⟨by decide, by decide⟩ ⟨fun _ => rfl, fun _ => rfl⟩ rfl rfl rfl (by decide) <| Runs.aloadN d1_20 rfl <| Runs.bipush d1_21 cb_64 <| Runs.newArr (j' := 3) (top' := a + 1 + 3) (k' := 3) (n' := 80) d1_23 d1_25 fA_2 w15 rfl w9 (Or.inl w16) rfl (by decide) ⟨by decide, by decide⟩ ⟨fun _ => rfl, fun _ => rfl⟩ rfl rfl rfl (by decide) <| Runs.aloadN d1_28 rfl <| ?_
  refine Runs.sipush d1_29 cs_512 <| Runs.newArr (j' := 4) (top' := a + 1 + 4) (k' := 4) (n' := 592) d1_32 d1_34 fA_3 w17 rfl w9 (Or.inl w18) rfl (by decide) ⟨by decide, by decide⟩ ⟨fun _ => rfl, fun _ => rfl⟩ rfl rfl rfl (by decide) <| Runs.aloadN d1_37 rfl <| Runs.sipush d1_38 cs_512 <| Runs.newArr (j' := 5) (top' := a + 1 + 5) (k' := 5) (n' := 1104) d1_41 d1_43 fA_4 w19 rfl w9 (Or.inl w20) rfl (by decide) ⟨by decide, by decide⟩ ⟨fun _ => rfl, fun _ => rfl⟩ rfl rfl rfl (by decide) <| Runs.aloadN d1_46 rfl <| Runs.sipush d1_47 cs_512 <| Runs.newArr (j' := 6) (top' := a + 1 + 6) (k' := 6) (n' := 1616) d1_50 d1_52 fA_5 w21 rfl w9 (Or.inl w22) rfl (by decide) ⟨by decide, by decide⟩ ⟨fun _ => rfl, fun _ => rfl⟩ rfl rfl rfl (by decide) <| Runs.aloadN d1_55 rfl <| Runs.sipush d1_56 cs_512 <| Runs.newArr (j' := 7) (top' := a + 1 + 7) (k' := 7) (n' := 2128) d1_59 d1_61 fA_6 w23 rfl w9 (Or.inl w24) rfl (by decide) ⟨by decide, by decide⟩ ⟨fun _ => rfl, fun _ => rfl⟩ rfl rfl rfl (by decide) <| Runs.aloadN d1_64 rfl <| ?_
  refine Runs.sipush d1_65 cs_512 <| Runs.newArr (j' := 8) (top' := a + 1 + 8) (k' := 8) (n' := 2640) d1_68 d1_70 fA_7 w25 rfl w9 (Or.inl w26) rfl (by decide) ⟨by decide, by decide⟩ ⟨fun _ => rfl, fun _ => rfl⟩ rfl rfl rfl (by decide) <| Runs.aloadN d1_73 rfl <| Runs.bipush d1_74 cb_8 <| Runs.newArr (j' := 9) (top' := a + 1 + 9) (k' := 9) (n' := 2648) d1_76 d1_78 fA_8 w27 rfl w9 (Or.inl w28) rfl (by decide) ⟨by decide, by decide⟩ ⟨fun _ => rfl, fun _ => rfl⟩ rfl rfl rfl (by decide) <| Runs.iloadN d1_81 rfl <| Runs.istoreN (P' := [vr a, vi i1, vi i2, vi i1, vn]) d1_82 (by decide) rfl <| Runs.iloadN d1_83 rfl <| Runs.iconst d1_84 ci_2 <| ?_
  refine ite_el hf (fun hc4 hf => ?_) (fun hc4 hf => ?_)
  · refine Runs.icN d1_85 (tlt hc4).2.1 <| ?_
    exact Runs.iconst d1_88 ci_2 <| Runs.istoreN (P' := [vr a, vi i1, vi i2, vi (2 : Int32), vn]) d1_89 (by decide) rfl <| Runs.forget [true, false, true, true, false] rfl <| X_init_b90_p zrec i2 (2 : Int32) hf
  · exact Runs.icY (pc' := 90) d1_85 (flt hc4).2.1 (by decide) <| Runs.forget [true, false, true, true, false] rfl <| X_init_b90_p zrec i2 i1 hf
theorem X_init_pay {C : Ctx} {a : Nat} {H : List (Nat × Nat × Rec)} {res : Rec} {i1 : Int32} {i2 : Int32} (hf : X_init i1 i2 = some res) : Pays C B1 [.ref a, .int i1, .int i2] (a + 1, (a, 0, zrec) :: H) (Ans none (a + 1 + 9, (a, 9, res) :: H)) :=
  Pays.of pnK (Nat.le_of_ble_eq_true rfl) (P := [vr a, vi i1, vi i2, vn, vn]) 2 rfl (X_init_p i1 i2 hf)
def X_validProc (ob : Rec) (i1 : Int32) : Option (Int32) :=
  if i1 < (0 : Int32) then
    some (0 : Int32)
  else
    if i1 < (gI ob 0) then
      some (1 : Int32)
    else
      some (0 : Int32)
set_option maxRecDepth 65536 in
set_option maxHeartbeats 4000000 in
theorem X_validProc_p {C : Ctx} {top : Nat} {a : Nat} {H : List (Nat × Nat × Rec)} {ob : Rec} {res : Int32} (i1 : Int32) (hf : X_validProc ob i1 = some res) : Runs C B3 0 0 0 [vr a, vi i1] [] (top, (a, 9, ob) :: H) (Ans (some (.int res)) (top, (a, 9, ob) :: H)) := by
  delta X_validProc at hf
  refine Runs.iloadN d3_0 rfl <| ?_
  refine ite_el hf (fun hc1 hf => ?_) (fun hc1 hf => ?_)
  · refine Runs.ifY (pc' := 16) d3_1 (tlt hc1).1 (by decide) <| ?_
    obtain rfl := Option.some.inj hf
    exact Runs.iconst d3_16 ci_0 <| Runs.retZ (y := (0 : Int32)) d3_17 rfl ⟨by decide, by decide⟩ rfl ⟨rfl, rfl⟩
  · refine Runs.ifN d3_1 (flt hc1).1 <| ?_
    refine Runs.iloadN d3_4 rfl <| Runs.aloadN d3_5 rfl <| Runs.getI d3_6 w29 fS_0 <| ?_
    refine ite_el hf (fun hc2 hf => ?_) (fun hc2 hf => ?_)
    · refine Runs.icN d3_9 (tlt hc2).2.1 <| ?_
      obtain rfl := Option.some.inj hf
      exact Runs.iconst d3_12 ci_1 <| Runs.goto (pc' := 17) d3_13 (by decide) <| Runs.retZ (y := (1 : Int32)) d3_17 rfl ⟨by decide, by decide⟩ rfl ⟨rfl, rfl⟩
    · refine Runs.icY (pc' := 16) d3_9 (flt hc2).2.1 (by decide) <| ?_
      obtain rfl := Option.some.inj hf
      exact Runs.iconst d3_16 ci_0 <| Runs.retZ (y := (0 : Int32)) d3_17 rfl ⟨by decide, by decide⟩ rfl ⟨rfl, rfl⟩
theorem X_validProc_pay {C : Ctx} {top : Nat} {a : Nat} {H : List (Nat × Nat × Rec)} {ob : Rec} {res : Int32} {i1 : Int32} (hf : X_validProc ob i1 = some res) : Pays C B3 [.ref a, .int i1] (top, (a, 9, ob) :: H) (Ans (some (.int res)) (top, (a, 9, ob) :: H)) :=
  Pays.of pnK (Nat.le_of_ble_eq_true rfl) (P := [vr a, vi i1]) 0 rfl (X_validProc_p i1 hf)
def X_msgIndex (ob : Rec) (i1 : Int32) (i2 : Int32) : Option (Int32) :=
  some (((i1 * (8 : Int32)) + i2) - (1 : Int32))
set_option maxRecDepth 65536 in
set_option maxHeartbeats 4000000 in
theorem X_msgIndex_p {C : Ctx} {top : Nat} {a : Nat} {H : List (Nat × Nat × Rec)} {ob : Rec} {res : Int32} (i1 : Int32) (i2 : Int32) (hf : X_msgIndex ob i1 i2 = some res) : Runs C B12 0 0 0 [vr a, vi i1, vi i2] [] (top, (a, 9, ob) :: H) (Ans (some (.int res)) (top, (a, 9, ob) :: H)) := by
  delta X_msgIndex at hf
  obtain rfl := Option.some.inj hf
  exact Runs.iloadN d12_0 rfl <| Runs.bipush d12_1 cb_8 <| Runs.imul d12_3 <| Runs.iloadN d12_4 rfl <| Runs.iadd d12_5 <| Runs.iconst d12_6 ci_1 <| Runs.isub d12_7 <| Runs.retI d12_8 rfl ⟨by decide, by decide⟩ ⟨rfl, rfl⟩
theorem X_msgIndex_pay {C : Ctx} {top : Nat} {a : Nat} {H : List (Nat × Nat × Rec)} {ob : Rec} {res : Int32} {i1 : Int32} {i2 : Int32} (hf : X_msgIndex ob i1 i2 = some res) : Pays C B12 [.ref a, .int i1, .int i2] (top, (a, 9, ob) :: H) (Ans (some (.int res)) (top, (a, 9, ob) :: H)) :=
  Pays.of pnK (Nat.le_of_ble_eq_true rfl) (P := [vr a, vi i1, vi i2]) 0 rfl (X_msgIndex_p i1 i2 hf)
def X_stateIndex (ob : Rec) (i1 : Int32) (i2 : Int32) (i3 : Int32) : Option (Int32) :=
  some ((((i1 * (64 : Int32)) + (i2 * (8 : Int32))) + i3) - (1 : Int32))
set_option maxRecDepth 65536 in
set_option maxHeartbeats 4000000 in
theorem X_stateIndex_p {C : Ctx} {top : Nat} {a : Nat} {H : List (Nat × Nat × Rec)} {ob : Rec} {res : Int32} (i1 : Int32) (i2 : Int32) (i3 : Int32) (hf : X_stateIndex ob i1 i2 i3 = some res) : Runs C B14 0 0 0 [vr a, vi i1, vi i2, vi i3] [] (top, (a, 9, ob) :: H) (Ans (some (.int res)) (top, (a, 9, ob) :: H)) := by
  delta X_stateIndex at hf
  obtain rfl := Option.some.inj hf
  exact Runs.iloadN d14_0 rfl <| Runs.bipush d14_1 cb_64 <| Runs.imul d14_3 <| Runs.iloadN d14_4 rfl <| Runs.bipush d14_5 cb_8 <| Runs.imul d14_7 <| Runs.iadd d14_8 <| Runs.iloadN d14_9 rfl <| Runs.iadd d14_10 <| Runs.iconst d14_11 ci_1 <| Runs.isub d14_12 <| Runs.retI d14_13 rfl ⟨by decide, by decide⟩ ⟨rfl, rfl⟩
theorem X_stateIndex_pay {C : Ctx} {top : Nat} {a : Nat} {H : List (Nat × Nat × Rec)} {ob : Rec} {res : Int32} {i1 : Int32} {i2 : Int32} {i3 : Int32} (hf : X_stateIndex ob i1 i2 i3 = some res) : Pays C B14 [.ref a, .int i1, .int i2, .int i3] (top, (a, 9, ob) :: H) (Ans (some (.int res)) (top, (a, 9, ob) :: H)) :=
  Pays.of pnK (Nat.le_of_ble_eq_true rfl) (P := [vr a, vi i1, vi i2, vi i3]) 0 rfl (X_stateIndex_p i1 i2 i3 hf)
def X_knownIndex (ob : Rec) (i1 : Int32) (i2 : Int32) (i3 : Int32) : Option (Int32) :=
  some (((i1 * (64 : Int32)) + (i2 * (8 : Int32))) + i3)
set_option maxRecDepth 65536 in
set_option maxHeartbeats 4000000 in
theorem X_knownIndex_p {C : Ctx} {top : Nat} {a : Nat} {H : List (Nat × Nat × Rec)} {ob : Rec} {res : Int32} (i1 : Int32) (i2 : Int32) (i3 : Int32) (hf : X_knownIndex ob i1 i2 i3 = some res) : Runs C B15 0 0 0 [vr a, vi i1, vi i2, vi i3] [] (top, (a, 9, ob) :: H) (Ans (some (.int res)) (top, (a, 9, ob) :: H)) := by
  delta X_knownIndex at hf
  obtain rfl := Option.some.inj hf
  exact Runs.iloadN d15_0 rfl <| Runs.bipush d15_1 cb_64 <| Runs.imul d15_3 <| Runs.iloadN d15_4 rfl <| Runs.bipush d15_5 cb_8 <| Runs.imul d15_7 <| Runs.iadd d15_8 <| Runs.iloadN d15_9 rfl <| Runs.iadd d15_10 <| Runs.retI d15_11 rfl ⟨by decide, by decide⟩ ⟨rfl, rfl⟩
theorem X_knownIndex_pay {C : Ctx} {top : Nat} {a : Nat} {H : List (Nat × Nat × Rec)} {ob : Rec} {res : Int32} {i1 : Int32} {i2 : Int32} {i3 : Int32} (hf : X_knownIndex ob i1 i2 i3 = some res) : Pays C B15 [.ref a, .int i1, .int i2, .int i3] (top, (a, 9, ob) :: H) (Ans (some (.int res)) (top, (a, 9, ob) :: H)) :=
  Pays.of pnK (Nat.le_of_ble_eq_true rfl) (P := [vr a, vi i1, vi i2, vi i3]) 0 rfl (X_knownIndex_p i1 i2 i3 hf)
def X_deliverAt_b89 (ob : Rec) (i1 : Int32) (i2 : Int32) : Option (Rec) :=
  (X_knownIndex ob i1 i1 i2).bind fun r1 =>
  chk (64 : Int32) ((i1 * (8 : Int32)) + i2) <|
  chk (512 : Int32) r1 <|
  some (sA ob 6 r1 (gA ob 2 ((i1 * (8 : Int32)) + i2)))
set_option maxRecDepth 65536 in
set_option maxHeartbeats 4000000 in
theorem X_deliverAt_b89_p {C : Ctx} {top : Nat} {a : Nat} {H : List (Nat × Nat × Rec)} {res : Rec} (ob : Rec) (i1 : Int32) (i2 : Int32) (hf : X_deliverAt_b89 ob i1 i2 = some res) : Runs C B13 0 0 89 [vr a, vi i1, vi i2, vn, vn, vn, vn] [] (top, (a, 9, ob) :: H) (Ans none (top, (a, 9, res) :: H)) := by
  delta X_deliverAt_b89 at hf
  refine Runs.aloadN d13_89 rfl <| Runs.iloadN d13_90 rfl <| Runs.iloadN d13_91 rfl <| Runs.iloadN d13_92 rfl <| ?_
  refine bind_el hf fun r1 hg2 hf => ?_
  refine Runs.callP (N := B15) (W := 0) (as := [.int i1, .int i1, .int i2]) (S' := []) d13_93 w93 w94 w95 rfl cw15 ar15 rk13_15_0 (by decide) rfl rfl (X_knownIndex_pay hg2) <| ans1 <| Runs.istore (P' := [vr a, vi i1, vi i2, vn, vn, vn, vi r1]) d13_96 (by decide) rfl <| Runs.aloadN d13_98 rfl <| Runs.getA d13_99 fA_6 w23 (by decide) <| Runs.iload d13_102 rfl <| Runs.aloadN d13_104 rfl <| Runs.getA d13_105 fA_2 w15 (by decide) <| Runs.iloadN d13_108 rfl <| Runs.bipush d13_109 cb_8 <| Runs.imul d13_111 <| Runs.iloadN d13_112 rfl <| Runs.iadd d13_113 <| ?_
  refine chk_el hf fun hi3 hf => ?_
  refine Runs.ialoadA d13_114 fA_2 (by decide) hi3 <| ?_
  refine chk_el hf fun hi4 hf => ?_
  obtain rfl := Option.some.inj hf
  exact Runs.iastoreA d13_115 fA_6 (by decide) hi4 <| Runs.retV d13_116 rfl ⟨by decide, by decide⟩ ⟨rfl, rfl⟩
def X_deliverAt (ob : Rec) (i1 : Int32) (i2 : Int32) (i3 : Int32) : Option (Rec) :=
  (X_stateIndex ob i1 i2 i3).bind fun r5 =>
  chk (512 : Int32) r5 <|
  chk (64 : Int32) ((i1 * (8 : Int32)) + i2) <|
  chk (64 : Int32) ((i1 * (8 : Int32)) + i2) <|
  chk (8 : Int32) i1 <|
  if (gA ob 8 i1) < (0 : Int32) then
    X_deliverAt_b89 (sA (sA ob 3 r5 (2 : Int32)) 2 ((i1 * (8 : Int32)) + i2) ((gA ob 2 ((i1 * (8 : Int32)) + i2)) + (1 : Int32))) i1 i2
  else
    if (gA ob 8 i1) < (64 : Int32) then
      chk (512 : Int32) ((i1 * (64 : Int32)) + (gA ob 8 i1)) <|
      chk (8 : Int32) i1 <|
      X_deliverAt_b89 (sA (sA (sA (sA ob 3 r5 (2 : Int32)) 2 ((i1 * (8 : Int32)) + i2) ((gA ob 2 ((i1 * (8 : Int32)) + i2)) + (1 : Int32))) 7 ((i1 * (64 : Int32)) + (gA ob 8 i1)) ((i2 * (16 : Int32)) + i3)) 8 i1 ((gA ob 8 i1) + (1 : Int32))) i1 i2
    else
      X_deliverAt_b89 (sA (sA ob 3 r5 (2 : Int32)) 2 ((i1 * (8 : Int32)) + i2) ((gA ob 2 ((i1 * (8 : Int32)) + i2)) + (1 : Int32))) i1 i2
set_option maxRecDepth 65536 in
set_option maxHeartbeats 4000000 in
theorem X_deliverAt_p {C : Ctx} {top : Nat} {a : Nat} {H : List (Nat × Nat × Rec)} {res : Rec} (ob : Rec) (i1 : Int32) (i2 : Int32) (i3 : Int32) (hf : X_deliverAt ob i1 i2 i3 = some res) : Runs C B13 0 0 0 [vr a, vi i1, vi i2, vi i3, vn, vn, vn] [] (top, (a, 9, ob) :: H) (Ans none (top, (a, 9, res) :: H)) := by
  delta X_deliverAt at hf
  refine Runs.aloadN d13_0 rfl <| Runs.iloadN d13_1 rfl <| Runs.iloadN d13_2 rfl <| Runs.iloadN d13_3 rfl <| ?_
  refine bind_el hf fun r5 hg6 hf => ?_
  refine Runs.callP (N := B14) (W := 0) (as := [.int i1, .int i2, .int i3]) (S' := []) d13_4 w89 w90 w91 rfl cw14 ar14 rk13_14_0 (by decide) rfl rfl (X_stateIndex_pay hg6) <| ans1 <| Runs.istore (P' := [vr a, vi i1, vi i2, vi i3, vi r5, vn, vn]) d13_7 (by decide) rfl <| Runs.aloadN d13_9 rfl <| Runs.getA d13_10 fA_3 w17 (by decide) <| Runs.iload d13_13 rfl <| Runs.iconst d13_15 ci_2 <| ?_
  refine chk_el hf fun hi7 hf => ?_
  refine Runs.iastoreA d13_16 fA_3 (by decide) hi7 <| Runs.aloadN d13_17 rfl <| Runs.getA d13_18 fA_2 w15 (by decide) <| Runs.iloadN d13_21 rfl <| Runs.bipush d13_22 cb_8 <| Runs.imul d13_24 <| Runs.iloadN d13_25 rfl <| Runs.iadd d13_26 <| Runs.aloadN d13_27 rfl <| Runs.getA d13_28 fA_2 w15 (by decide) <| Runs.iloadN d13_31 rfl <| Runs.bipush d13_32 cb_8 <| ?_
  refine Runs.imul d13_34 <| Runs.iloadN d13_35 rfl <| Runs.iadd d13_36 <| ?_
  refine chk_el hf fun hi8 hf => ?_
  refine Runs.ialoadA d13_37 fA_2 (by decide) hi8 <| Runs.iconst d13_38 ci_1 <| Runs.iadd d13_39 <| ?_
  refine chk_el hf fun hi9 hf => ?_
  refine Runs.iastoreA d13_40 fA_2 (by decide) hi9 <| Runs.aloadN d13_41 rfl <| Runs.getA d13_42 fA_8 w27 (by decide) <| Runs.iloadN d13_45 rfl <| ?_
  refine chk_el hf fun hi10 hf => ?_
  refine Runs.ialoadA d13_46 fA_8 (by decide) hi10 <| Runs.istore (P' := [vr a, vi i1, vi i2, vi i3, vi r5, vi (gA ob 8 i1), vn]) d13_47 (by decide) rfl <| Runs.iload d13_49 rfl <| ?_
  refine ite_el hf (fun hc11 hf => ?_) (fun hc11 hf => ?_)
  · exact Runs.ifY (pc' := 89) d13_51 (tlt hc11).1 (by decide) <| Runs.forget [true, true, true, false, false, false, false] rfl <| X_deliverAt_b89_p (sA (sA ob 3 r5 (2 : Int32)) 2 ((i1 * (8 : Int32)) + i2) ((gA ob 2 ((i1 * (8 : Int32)) + i2)) + (1 : Int32))) i1 i2 hf
  · refine Runs.ifN d13_51 (flt hc11).1 <| ?_
    refine Runs.iload d13_54 rfl <| Runs.bipush d13_56 cb_64 <| ?_
    refine ite_el hf (fun hc12 hf => ?_) (fun hc12 hf => ?_)
    · refine Runs.icN d13_58 (tlt hc12).2.1 <| ?_
      refine Runs.aloadN d13_61 rfl <| Runs.getA d13_62 fA_7 w25 (by decide) <| Runs.iloadN d13_65 rfl <| Runs.bipush d13_66 cb_64 <| Runs.imul d13_68 <| Runs.iload d13_69 rfl <| Runs.iadd d13_71 <| Runs.iloadN d13_72 rfl <| Runs.bipush d13_73 cb_16 <| Runs.imul d13_75 <| Runs.iloadN d13_76 rfl <| Runs.iadd d13_77 <| ?_
      refine chk_el hf fun hi13 hf => ?_
      refine Runs.iastoreA d13_78 fA_7 (by decide) hi13 <| Runs.aloadN d13_79 rfl <| Runs.getA d13_80 fA_8 w27 (by decide) <| Runs.iloadN d13_83 rfl <| Runs.iload d13_84 rfl <| Runs.iconst d13_86 ci_1 <| Runs.iadd d13_87 <| ?_
      refine chk_el hf fun hi14 hf => ?_
      exact Runs.iastoreA d13_88 fA_8 (by decide) hi14 <| Runs.forget [true, true, true, false, false, false, false] rfl <| X_deliverAt_b89_p (sA (sA (sA (sA ob 3 r5 (2 : Int32)) 2 ((i1 * (8 : Int32)) + i2) ((gA ob 2 ((i1 * (8 : Int32)) + i2)) + (1 : Int32))) 7 ((i1 * (64 : Int32)) + (gA ob 8 i1)) ((i2 * (16 : Int32)) + i3)) 8 i1 ((gA ob 8 i1) + (1 : Int32))) i1 i2 hf
    · exact Runs.icY (pc' := 89) d13_58 (flt hc12).2.1 (by decide) <| Runs.forget [true, true, true, false, false, false, false] rfl <| X_deliverAt_b89_p (sA (sA ob 3 r5 (2 : Int32)) 2 ((i1 * (8 : Int32)) + i2) ((gA ob 2 ((i1 * (8 : Int32)) + i2)) + (1 : Int32))) i1 i2 hf
theorem X_deliverAt_pay {C : Ctx} {top : Nat} {a : Nat} {H : List (Nat × Nat × Rec)} {res : Rec} {ob : Rec} {i1 : Int32} {i2 : Int32} {i3 : Int32} (hf : X_deliverAt ob i1 i2 i3 = some res) : Pays C B13 [.ref a, .int i1, .int i2, .int i3] (top, (a, 9, ob) :: H) (Ans none (top, (a, 9, res) :: H)) :=
  Pays.of pnK (Nat.le_of_ble_eq_true rfl) (P := [vr a, vi i1, vi i2, vi i3, vn, vn, vn]) 3 rfl (X_deliverAt_p ob i1 i2 i3 hf)
def X_broadcast_w125 (NF : Nat) (k125 : Rec → Int32 → Int32 → Int32 → Int32 → Option (Int32 × Rec)) (ob : Rec) (i1 : Int32) (i2 : Int32) (i3 : Int32) (i4 : Int32) : Option (Int32 × Rec) :=
  if i4 < (gI ob 0) then
    if i4 = i1 then
      chk (512 : Int32) ((i3 * (8 : Int32)) + i4) <|
      k125 (sA ob 5 ((i3 * (8 : Int32)) + i4) (0 : Int32)) i1 i2 i3 (i4 + (1 : Int32))
    else
      chk (512 : Int32) ((i3 * (8 : Int32)) + i4) <|
      k125 (sA ob 5 ((i3 * (8 : Int32)) + i4) (1 : Int32)) i1 i2 i3 (i4 + (1 : Int32))
  else
    some (i2, ob)
def X_broadcast_l125 (NF : Nat) : Nat → Rec → Int32 → Int32 → Int32 → Int32 → Option (Int32 × Rec)
  | 0, _, _, _, _, _ => none
  | n + 1, ob, i1, i2, i3, i4 => X_broadcast_w125 NF (X_broadcast_l125 NF n) ob i1 i2 i3 i4
set_option maxRecDepth 65536 in
set_option maxHeartbeats 4000000 in
theorem X_broadcast_w125_p {C : Ctx} {top : Nat} {a : Nat} {H : List (Nat × Nat × Rec)} {res : Int32 × Rec} {NF : Nat} (k125 : Rec → Int32 → Int32 → Int32 → Int32 → Option (Int32 × Rec)) (hk125 : ∀ (ob : Rec) (i1 : Int32) (i2 : Int32) (i3 : Int32) (i4 : Int32), k125 ob i1 i2 i3 i4 = some res → Runs C B2 0 0 125 [vr a, vi i1, vi i2, vi i3, vi i4] [] (top, (a, 9, ob) :: H) (Ans (some (.int res.1)) (top, (a, 9, res.2) :: H))) (ob : Rec) (i1 : Int32) (i2 : Int32) (i3 : Int32) (i4 : Int32) (hf : X_broadcast_w125 NF k125 ob i1 i2 i3 i4 = some res) : Runs C B2 0 0 125 [vr a, vi i1, vi i2, vi i3, vi i4] [] (top, (a, 9, ob) :: H) (Ans (some (.int res.1)) (top, (a, 9, res.2) :: H)) := by
  delta X_broadcast_w125 at hf
  refine Runs.iload d2_125 rfl <| Runs.aloadN d2_127 rfl <| Runs.getI d2_128 w29 fS_0 <| ?_
  refine ite_el hf (fun hc7 hf => ?_) (fun hc7 hf => ?_)
  · refine Runs.icN d2_131 (tlt hc7).2.1 <| ?_
    refine Runs.aloadN d2_134 rfl <| Runs.getA d2_135 fA_5 w21 (by decide) <| Runs.iloadN d2_138 rfl <| Runs.bipush d2_139 cb_8 <| Runs.imul d2_141 <| Runs.iload d2_142 rfl <| Runs.iadd d2_144 <| Runs.iload d2_145 rfl <| Runs.iloadN d2_147 rfl <| ?_
    refine ite_el hf (fun hc8 hf => ?_) (fun hc8 hf => ?_)
    · refine Runs.icN d2_148 (teq hc8).2 <| ?_
      refine Runs.iconst d2_151 ci_0 <| Runs.goto (pc' := 156) d2_152 (by decide) <| ?_
      refine chk_el hf fun hi9 hf => ?_
      exact Runs.iastoreA d2_156 fA_5 (by decide) hi9 <| Runs.iinc (P' := [vr a, vi i1, vi i2, vi i3, vi (i4 + (1 : Int32))]) d2_157 ci_1 rfl (by decide) rfl <| Runs.goto (pc' := 125) d2_160 (by decide) <| hk125 (sA ob 5 ((i3 * (8 : Int32)) + i4) (0 : Int32)) i1 i2 i3 (i4 + (1 : Int32)) hf
    · refine Runs.icY (pc' := 155) d2_148 (feq hc8).2 (by decide) <| ?_
      refine Runs.iconst d2_155 ci_1 <| ?_
      refine chk_el hf fun hi10 hf => ?_
      exact Runs.iastoreA d2_156 fA_5 (by decide) hi10 <| Runs.iinc (P' := [vr a, vi i1, vi i2, vi i3, vi (i4 + (1 : Int32))]) d2_157 ci_1 rfl (by decide) rfl <| Runs.goto (pc' := 125) d2_160 (by decide) <| hk125 (sA ob 5 ((i3 * (8 : Int32)) + i4) (1 : Int32)) i1 i2 i3 (i4 + (1 : Int32)) hf
  · refine Runs.icY (pc' := 163) d2_131 (flt hc7).2.1 (by decide) <| ?_
    obtain rfl := Option.some.inj hf
    exact Runs.iloadN d2_163 rfl <| Runs.retI d2_164 rfl ⟨by decide, by decide⟩ ⟨rfl, rfl⟩
theorem X_broadcast_l125_p {C : Ctx} {top : Nat} {a : Nat} {H : List (Nat × Nat × Rec)} {res : Int32 × Rec} {NF : Nat} (n : Nat) (ob : Rec) (i1 : Int32) (i2 : Int32) (i3 : Int32) (i4 : Int32) (hf : X_broadcast_l125 NF n ob i1 i2 i3 i4 = some res) : Runs C B2 0 0 125 [vr a, vi i1, vi i2, vi i3, vi i4] [] (top, (a, 9, ob) :: H) (Ans (some (.int res.1)) (top, (a, 9, res.2) :: H)) := by
  induction n generalizing ob i1 i2 i3 i4 with
  | zero => cases (show (none : Option (Int32 × Rec)) = some res from hf)
  | succ n ih => exact X_broadcast_w125_p (X_broadcast_l125 NF n) (fun ob i1 i2 i3 i4 h => ih _ _ _ _ _ h) ob i1 i2 i3 i4 hf
def X_broadcast_w64 (NF : Nat) (k64 : Rec → Int32 → Int32 → Int32 → Int32 → Option (Int32 × Rec)) (ob : Rec) (i1 : Int32) (i2 : Int32) (i3 : Int32) (i4 : Int32) : Option (Int32 × Rec) :=
  if i4 < (gI ob 0) then
    chk (64 : Int32) ((i1 * (8 : Int32)) + i4) <|
    chk (512 : Int32) ((i3 * (8 : Int32)) + i4) <|
    k64 (sA ob 4 ((i3 * (8 : Int32)) + i4) (gA ob 2 ((i1 * (8 : Int32)) + i4))) i1 i2 i3 (i4 + (1 : Int32))
  else
    chk (512 : Int32) ((i3 * (8 : Int32)) + i1) <|
    (X_deliverAt (sA ob 4 ((i3 * (8 : Int32)) + i1) i2) i1 i1 i2).bind fun q5 =>
    X_broadcast_l125 NF NF q5 i1 i2 i3 (0 : Int32)
def X_broadcast_l64 (NF : Nat) : Nat → Rec → Int32 → Int32 → Int32 → Int32 → Option (Int32 × Rec)
  | 0, _, _, _, _, _ => none
  | n + 1, ob, i1, i2, i3, i4 => X_broadcast_w64 NF (X_broadcast_l64 NF n) ob i1 i2 i3 i4
set_option maxRecDepth 65536 in
set_option maxHeartbeats 4000000 in
theorem X_broadcast_w64_p {C : Ctx} {top : Nat} {a : Nat} {H : List (Nat × Nat × Rec)} {res : Int32 × Rec} {NF : Nat} (k64 : Rec → Int32 → Int32 → Int32 → Int32 → Option (Int32 × Rec)) (hk64 : ∀ (ob : Rec) (i1 : Int32) (i2 : Int32) (i3 : Int32) (i4 : Int32), k64 ob i1 i2 i3 i4 = some res → Runs C B2 0 0 64 [vr a, vi i1, vi i2, vi i3, vi i4] [] (top, (a, 9, ob) :: H) (Ans (some (.int res.1)) (top, (a, 9, res.2) :: H))) (ob : Rec) (i1 : Int32) (i2 : Int32) (i3 : Int32) (i4 : Int32) (hf : X_broadcast_w64 NF k64 ob i1 i2 i3 i4 = some res) : Runs C B2 0 0 64 [vr a, vi i1, vi i2, vi i3, vi i4] [] (top, (a, 9, ob) :: H) (Ans (some (.int res.1)) (top, (a, 9, res.2) :: H)) := by
  delta X_broadcast_w64 at hf
  refine Runs.iload d2_64 rfl <| Runs.aloadN d2_66 rfl <| Runs.getI d2_67 w29 fS_0 <| ?_
  refine ite_el hf (fun hc1 hf => ?_) (fun hc1 hf => ?_)
  · refine Runs.icN d2_70 (tlt hc1).2.1 <| ?_
    refine Runs.aloadN d2_73 rfl <| Runs.getA d2_74 fA_4 w19 (by decide) <| Runs.iloadN d2_77 rfl <| Runs.bipush d2_78 cb_8 <| Runs.imul d2_80 <| Runs.iload d2_81 rfl <| Runs.iadd d2_83 <| Runs.aloadN d2_84 rfl <| Runs.getA d2_85 fA_2 w15 (by decide) <| Runs.iloadN d2_88 rfl <| Runs.bipush d2_89 cb_8 <| Runs.imul d2_91 <| ?_
    refine Runs.iload d2_92 rfl <| Runs.iadd d2_94 <| ?_
    refine chk_el hf fun hi2 hf => ?_
    refine Runs.ialoadA d2_95 fA_2 (by decide) hi2 <| ?_
    refine chk_el hf fun hi3 hf => ?_
    exact Runs.iastoreA d2_96 fA_4 (by decide) hi3 <| Runs.iinc (P' := [vr a, vi i1, vi i2, vi i3, vi (i4 + (1 : Int32))]) d2_97 ci_1 rfl (by decide) rfl <| Runs.goto (pc' := 64) d2_100 (by decide) <| hk64 (sA ob 4 ((i3 * (8 : Int32)) + i4) (gA ob 2 ((i1 * (8 : Int32)) + i4))) i1 i2 i3 (i4 + (1 : Int32)) hf
  · refine Runs.icY (pc' := 103) d2_70 (flt hc1).2.1 (by decide) <| ?_
    refine Runs.aloadN d2_103 rfl <| Runs.getA d2_104 fA_4 w19 (by decide) <| Runs.iloadN d2_107 rfl <| Runs.bipush d2_108 cb_8 <| Runs.imul d2_110 <| Runs.iloadN d2_111 rfl <| Runs.iadd d2_112 <| Runs.iloadN d2_113 rfl <| ?_
    refine chk_el hf fun hi4 hf => ?_
    refine Runs.iastoreA d2_114 fA_4 (by decide) hi4 <| Runs.aloadN d2_115 rfl <| Runs.iloadN d2_116 rfl <| Runs.iloadN d2_117 rfl <| Runs.iloadN d2_118 rfl <| ?_
    refine bind_el hf fun q5 hg6 hf => ?_
    exact Runs.callP (N := B13) (W := 0) (as := [.int i1, .int i1, .int i2]) (S' := []) d2_119 w85 w86 w87 rfl cw13 ar13 rk2_13_0 (by decide) rfl rfl (X_deliverAt_pay hg6) <| ans0 <| Runs.iconst d2_122 ci_0 <| Runs.istore (P' := [vr a, vi i1, vi i2, vi i3, vi (0 : Int32)]) d2_123 (by decide) rfl <| X_broadcast_l125_p NF q5 i1 i2 i3 (0 : Int32) hf
theorem X_broadcast_l64_p {C : Ctx} {top : Nat} {a : Nat} {H : List (Nat × Nat × Rec)} {res : Int32 × Rec} {NF : Nat} (n : Nat) (ob : Rec) (i1 : Int32) (i2 : Int32) (i3 : Int32) (i4 : Int32) (hf : X_broadcast_l64 NF n ob i1 i2 i3 i4 = some res) : Runs C B2 0 0 64 [vr a, vi i1, vi i2, vi i3, vi i4] [] (top, (a, 9, ob) :: H) (Ans (some (.int res.1)) (top, (a, 9, res.2) :: H)) := by
  induction n generalizing ob i1 i2 i3 i4 with
  | zero => cases (show (none : Option (Int32 × Rec)) = some res from hf)
  | succ n ih => exact X_broadcast_w64_p (X_broadcast_l64 NF n) (fun ob i1 i2 i3 i4 h => ih _ _ _ _ _ h) ob i1 i2 i3 i4 hf
def X_broadcast (NF : Nat) (ob : Rec) (i1 : Int32) : Option (Int32 × Rec) :=
  (X_validProc ob i1).bind fun r11 =>
  if r11 = (0 : Int32) then
    some ((-1 : Int32), ob)
  else
    chk (8 : Int32) i1 <|
    if (gA ob 1 i1) = (0 : Int32) then
      chk (8 : Int32) i1 <|
      if (gA ob 0 i1) < (gI ob 1) then
        chk (8 : Int32) i1 <|
        chk (8 : Int32) i1 <|
        (X_msgIndex (sA ob 0 i1 ((gA ob 0 i1) + (1 : Int32))) i1 ((gA ob 0 i1) + (1 : Int32))).bind fun r20 =>
        X_broadcast_l64 NF NF (sA ob 0 i1 ((gA ob 0 i1) + (1 : Int32))) i1 ((gA ob 0 i1) + (1 : Int32)) r20 (0 : Int32)
      else
        some ((-3 : Int32), ob)
    else
      some ((-2 : Int32), ob)
set_option maxRecDepth 65536 in
set_option maxHeartbeats 4000000 in
theorem X_broadcast_p {C : Ctx} {top : Nat} {a : Nat} {H : List (Nat × Nat × Rec)} {res : Int32 × Rec} {NF : Nat} (ob : Rec) (i1 : Int32) (hf : X_broadcast NF ob i1 = some res) : Runs C B2 0 0 0 [vr a, vi i1, vn, vn, vn] [] (top, (a, 9, ob) :: H) (Ans (some (.int res.1)) (top, (a, 9, res.2) :: H)) := by
  delta X_broadcast at hf
  refine Runs.aloadN d2_0 rfl <| Runs.iloadN d2_1 rfl <| ?_
  refine bind_el hf fun r11 hg12 hf => ?_
  refine Runs.callP (N := B3) (W := 0) (as := [.int i1]) (S' := []) d2_2 w38 w39 w40 rfl cw3 ar3 rk2_3_0 (by decide) rfl rfl (X_validProc_pay hg12) <| ans1 <| ?_
  refine ite_el hf (fun hc13 hf => ?_) (fun hc13 hf => ?_)
  · refine Runs.ifN d2_5 (teq hc13).2 <| ?_
    obtain rfl := Option.some.inj hf
    exact Runs.iconst d2_8 ci_m1 <| Runs.retI d2_9 rfl ⟨by decide, by decide⟩ ⟨rfl, rfl⟩
  · refine Runs.ifY (pc' := 10) d2_5 (feq hc13).2 (by decide) <| ?_
    refine Runs.aloadN d2_10 rfl <| Runs.getA d2_11 fA_1 w13 (by decide) <| Runs.iloadN d2_14 rfl <| ?_
    refine chk_el hf fun hi14 hf => ?_
    refine Runs.baloadA d2_15 fA_1 (by decide) hi14 <| ?_
    refine ite_el hf (fun hc15 hf => ?_) (fun hc15 hf => ?_)
    · refine Runs.ifY (pc' := 22) d2_16 (teq hc15).1 (by decide) <| ?_
      refine Runs.aloadN d2_22 rfl <| Runs.getA d2_23 fA_0 w10 (by decide) <| Runs.iloadN d2_26 rfl <| ?_
      refine chk_el hf fun hi16 hf => ?_
      refine Runs.ialoadA d2_27 fA_0 (by decide) hi16 <| Runs.aloadN d2_28 rfl <| Runs.getI d2_29 w31 fS_1 <| ?_
      refine ite_el hf (fun hc17 hf => ?_) (fun hc17 hf => ?_)
      · refine Runs.icY (pc' := 38) d2_32 (tlt hc17).1 (by decide) <| ?_
        refine Runs.aloadN d2_38 rfl <| Runs.getA d2_39 fA_0 w10 (by decide) <| Runs.iloadN d2_42 rfl <| ?_
        refine chk_el hf fun hi18 hf => ?_
        refine Runs.ialoadA d2_43 fA_0 (by decide) hi18 <| Runs.iconst d2_44 ci_1 <| Runs.iadd d2_45 <| Runs.istoreN (P' := [vr a, vi i1, vi ((gA ob 0 i1) + (1 : Int32)), vn, vn]) d2_46 (by decide) rfl <| Runs.aloadN d2_47 rfl <| Runs.getA d2_48 fA_0 w10 (by decide) <| Runs.iloadN d2_51 rfl <| Runs.iloadN d2_52 rfl <| ?_
        refine chk_el hf fun hi19 hf => ?_
        refine Runs.iastoreA d2_53 fA_0 (by decide) hi19 <| Runs.aloadN d2_54 rfl <| Runs.iloadN d2_55 rfl <| Runs.iloadN d2_56 rfl <| ?_
        refine bind_el hf fun r20 hg21 hf => ?_
        exact Runs.callP (N := B12) (W := 0) (as := [.int i1, .int ((gA ob 0 i1) + (1 : Int32))]) (S' := []) d2_57 w81 w82 w83 rfl cw12 ar12 rk2_12_0 (by decide) rfl rfl (X_msgIndex_pay hg21) <| ans1 <| Runs.istoreN (P' := [vr a, vi i1, vi ((gA ob 0 i1) + (1 : Int32)), vi r20, vn]) d2_60 (by decide) rfl <| Runs.iconst d2_61 ci_0 <| Runs.istore (P' := [vr a, vi i1, vi ((gA ob 0 i1) + (1 : Int32)), vi r20, vi (0 : Int32)]) d2_62 (by decide) rfl <| X_broadcast_l64_p NF (sA ob 0 i1 ((gA ob 0 i1) + (1 : Int32))) i1 ((gA ob 0 i1) + (1 : Int32)) r20 (0 : Int32) hf
      · refine Runs.icN d2_32 (flt hc17).1 <| ?_
        obtain rfl := Option.some.inj hf
        exact Runs.bipush d2_35 cb_m3 <| Runs.retI d2_37 rfl ⟨by decide, by decide⟩ ⟨rfl, rfl⟩
    · refine Runs.ifN d2_16 (feq hc15).1 <| ?_
      obtain rfl := Option.some.inj hf
      exact Runs.bipush d2_19 cb_m2 <| Runs.retI d2_21 rfl ⟨by decide, by decide⟩ ⟨rfl, rfl⟩
theorem X_broadcast_pay {C : Ctx} {top : Nat} {a : Nat} {H : List (Nat × Nat × Rec)} {res : Int32 × Rec} {NF : Nat} {ob : Rec} {i1 : Int32} (hf : X_broadcast NF ob i1 = some res) : Pays C B2 [.ref a, .int i1] (top, (a, 9, ob) :: H) (Ans (some (.int res.1)) (top, (a, 9, res.2) :: H)) :=
  Pays.of pnK (Nat.le_of_ble_eq_true rfl) (P := [vr a, vi i1, vn, vn, vn]) 3 rfl (X_broadcast_p ob i1 hf)
def X_sent (ob : Rec) (i1 : Int32) : Option (Int32) :=
  (X_validProc ob i1).bind fun r1 =>
  if r1 = (0 : Int32) then
    some (-1 : Int32)
  else
    chk (8 : Int32) i1 <|
    some (gA ob 0 i1)
set_option maxRecDepth 65536 in
set_option maxHeartbeats 4000000 in
theorem X_sent_p {C : Ctx} {top : Nat} {a : Nat} {H : List (Nat × Nat × Rec)} {ob : Rec} {res : Int32} (i1 : Int32) (hf : X_sent ob i1 = some res) : Runs C B4 0 0 0 [vr a, vi i1] [] (top, (a, 9, ob) :: H) (Ans (some (.int res)) (top, (a, 9, ob) :: H)) := by
  delta X_sent at hf
  refine Runs.aloadN d4_0 rfl <| Runs.iloadN d4_1 rfl <| ?_
  refine bind_el hf fun r1 hg2 hf => ?_
  refine Runs.callP (N := B3) (W := 0) (as := [.int i1]) (S' := []) d4_2 w38 w39 w40 rfl cw3 ar3 rk4_3_0 (by decide) rfl rfl (X_validProc_pay hg2) <| ans1 <| ?_
  refine ite_el hf (fun hc3 hf => ?_) (fun hc3 hf => ?_)
  · refine Runs.ifN d4_5 (teq hc3).2 <| ?_
    obtain rfl := Option.some.inj hf
    exact Runs.iconst d4_8 ci_m1 <| Runs.retI d4_9 rfl ⟨by decide, by decide⟩ ⟨rfl, rfl⟩
  · refine Runs.ifY (pc' := 10) d4_5 (feq hc3).2 (by decide) <| ?_
    refine Runs.aloadN d4_10 rfl <| Runs.getA d4_11 fA_0 w10 (by decide) <| Runs.iloadN d4_14 rfl <| ?_
    refine chk_el hf fun hi4 hf => ?_
    obtain rfl := Option.some.inj hf
    exact Runs.ialoadA d4_15 fA_0 (by decide) hi4 <| Runs.retI d4_16 rfl ⟨by decide, by decide⟩ ⟨rfl, rfl⟩
theorem X_sent_pay {C : Ctx} {top : Nat} {a : Nat} {H : List (Nat × Nat × Rec)} {ob : Rec} {res : Int32} {i1 : Int32} (hf : X_sent ob i1 = some res) : Pays C B4 [.ref a, .int i1] (top, (a, 9, ob) :: H) (Ans (some (.int res)) (top, (a, 9, ob) :: H)) :=
  Pays.of pnK (Nat.le_of_ble_eq_true rfl) (P := [vr a, vi i1]) 0 rfl (X_sent_p i1 hf)
def X_exists (ob : Rec) (i1 : Int32) (i2 : Int32) : Option (Int32) :=
  if i1 < (0 : Int32) then
    some (0 : Int32)
  else
    if i1 < (gI ob 0) then
      if i2 < (1 : Int32) then
        some (0 : Int32)
      else
        chk (8 : Int32) i1 <|
        if (gA ob 0 i1) < i2 then
          some (0 : Int32)
        else
          some (1 : Int32)
    else
      some (0 : Int32)
set_option maxRecDepth 65536 in
set_option maxHeartbeats 4000000 in
theorem X_exists_p {C : Ctx} {top : Nat} {a : Nat} {H : List (Nat × Nat × Rec)} {ob : Rec} {res : Int32} (i1 : Int32) (i2 : Int32) (hf : X_exists ob i1 i2 = some res) : Runs C B6 0 0 0 [vr a, vi i1, vi i2] [] (top, (a, 9, ob) :: H) (Ans (some (.int res)) (top, (a, 9, ob) :: H)) := by
  delta X_exists at hf
  refine Runs.iloadN d6_0 rfl <| ?_
  refine ite_el hf (fun hc1 hf => ?_) (fun hc1 hf => ?_)
  · refine Runs.ifY (pc' := 31) d6_1 (tlt hc1).1 (by decide) <| ?_
    obtain rfl := Option.some.inj hf
    exact Runs.iconst d6_31 ci_0 <| Runs.retZ (y := (0 : Int32)) d6_32 rfl ⟨by decide, by decide⟩ rfl ⟨rfl, rfl⟩
  · refine Runs.ifN d6_1 (flt hc1).1 <| ?_
    refine Runs.iloadN d6_4 rfl <| Runs.aloadN d6_5 rfl <| Runs.getI d6_6 w29 fS_0 <| ?_
    refine ite_el hf (fun hc2 hf => ?_) (fun hc2 hf => ?_)
    · refine Runs.icN d6_9 (tlt hc2).2.1 <| ?_
      refine Runs.iloadN d6_12 rfl <| Runs.iconst d6_13 ci_1 <| ?_
      refine ite_el hf (fun hc3 hf => ?_) (fun hc3 hf => ?_)
      · refine Runs.icY (pc' := 31) d6_14 (tlt hc3).1 (by decide) <| ?_
        obtain rfl := Option.some.inj hf
        exact Runs.iconst d6_31 ci_0 <| Runs.retZ (y := (0 : Int32)) d6_32 rfl ⟨by decide, by decide⟩ rfl ⟨rfl, rfl⟩
      · refine Runs.icN d6_14 (flt hc3).1 <| ?_
        refine Runs.iloadN d6_17 rfl <| Runs.aloadN d6_18 rfl <| Runs.getA d6_19 fA_0 w10 (by decide) <| Runs.iloadN d6_22 rfl <| ?_
        refine chk_el hf fun hi4 hf => ?_
        refine Runs.ialoadA d6_23 fA_0 (by decide) hi4 <| ?_
        refine ite_el hf (fun hc5 hf => ?_) (fun hc5 hf => ?_)
        · refine Runs.icY (pc' := 31) d6_24 (tlt hc5).2.2.1 (by decide) <| ?_
          obtain rfl := Option.some.inj hf
          exact Runs.iconst d6_31 ci_0 <| Runs.retZ (y := (0 : Int32)) d6_32 rfl ⟨by decide, by decide⟩ rfl ⟨rfl, rfl⟩
        · refine Runs.icN d6_24 (flt hc5).2.2.1 <| ?_
          obtain rfl := Option.some.inj hf
          exact Runs.iconst d6_27 ci_1 <| Runs.goto (pc' := 32) d6_28 (by decide) <| Runs.retZ (y := (1 : Int32)) d6_32 rfl ⟨by decide, by decide⟩ rfl ⟨rfl, rfl⟩
    · refine Runs.icY (pc' := 31) d6_9 (flt hc2).2.1 (by decide) <| ?_
      obtain rfl := Option.some.inj hf
      exact Runs.iconst d6_31 ci_0 <| Runs.retZ (y := (0 : Int32)) d6_32 rfl ⟨by decide, by decide⟩ rfl ⟨rfl, rfl⟩
theorem X_exists_pay {C : Ctx} {top : Nat} {a : Nat} {H : List (Nat × Nat × Rec)} {ob : Rec} {res : Int32} {i1 : Int32} {i2 : Int32} (hf : X_exists ob i1 i2 = some res) : Pays C B6 [.ref a, .int i1, .int i2] (top, (a, 9, ob) :: H) (Ans (some (.int res)) (top, (a, 9, ob) :: H)) :=
  Pays.of pnK (Nat.le_of_ble_eq_true rfl) (P := [vr a, vi i1, vi i2]) 0 rfl (X_exists_p i1 i2 hf)
def X_stamp (ob : Rec) (i1 : Int32) (i2 : Int32) (i3 : Int32) : Option (Int32) :=
  (X_exists ob i1 i2).bind fun r1 =>
  if r1 = (0 : Int32) then
    some (-1 : Int32)
  else
    (X_validProc ob i3).bind fun r4 =>
    if r4 = (0 : Int32) then
      some (-1 : Int32)
    else
      (X_msgIndex ob i1 i2).bind fun r7 =>
      chk (512 : Int32) ((r7 * (8 : Int32)) + i3) <|
      some (gA ob 4 ((r7 * (8 : Int32)) + i3))
set_option maxRecDepth 65536 in
set_option maxHeartbeats 4000000 in
theorem X_stamp_p {C : Ctx} {top : Nat} {a : Nat} {H : List (Nat × Nat × Rec)} {ob : Rec} {res : Int32} (i1 : Int32) (i2 : Int32) (i3 : Int32) (hf : X_stamp ob i1 i2 i3 = some res) : Runs C B5 0 0 0 [vr a, vi i1, vi i2, vi i3, vn] [] (top, (a, 9, ob) :: H) (Ans (some (.int res)) (top, (a, 9, ob) :: H)) := by
  delta X_stamp at hf
  refine Runs.aloadN d5_0 rfl <| Runs.iloadN d5_1 rfl <| Runs.iloadN d5_2 rfl <| ?_
  refine bind_el hf fun r1 hg2 hf => ?_
  refine Runs.callP (N := B6) (W := 0) (as := [.int i1, .int i2]) (S' := []) d5_3 w52 w53 w54 rfl cw6 ar6 rk5_6_0 (by decide) rfl rfl (X_exists_pay hg2) <| ans1 <| ?_
  refine ite_el hf (fun hc3 hf => ?_) (fun hc3 hf => ?_)
  · refine Runs.ifY (pc' := 17) d5_6 (teq hc3).1 (by decide) <| ?_
    obtain rfl := Option.some.inj hf
    exact Runs.iconst d5_17 ci_m1 <| Runs.retI d5_18 rfl ⟨by decide, by decide⟩ ⟨rfl, rfl⟩
  · refine Runs.ifN d5_6 (feq hc3).1 <| ?_
    refine Runs.aloadN d5_9 rfl <| Runs.iloadN d5_10 rfl <| ?_
    refine bind_el hf fun r4 hg5 hf => ?_
    refine Runs.callP (N := B3) (W := 0) (as := [.int i3]) (S' := []) d5_11 w38 w39 w40 rfl cw3 ar3 rk5_3_0 (by decide) rfl rfl (X_validProc_pay hg5) <| ans1 <| ?_
    refine ite_el hf (fun hc6 hf => ?_) (fun hc6 hf => ?_)
    · refine Runs.ifN d5_14 (teq hc6).2 <| ?_
      obtain rfl := Option.some.inj hf
      exact Runs.iconst d5_17 ci_m1 <| Runs.retI d5_18 rfl ⟨by decide, by decide⟩ ⟨rfl, rfl⟩
    · refine Runs.ifY (pc' := 19) d5_14 (feq hc6).2 (by decide) <| ?_
      refine Runs.aloadN d5_19 rfl <| Runs.iloadN d5_20 rfl <| Runs.iloadN d5_21 rfl <| ?_
      refine bind_el hf fun r7 hg8 hf => ?_
      refine Runs.callP (N := B12) (W := 0) (as := [.int i1, .int i2]) (S' := []) d5_22 w81 w82 w83 rfl cw12 ar12 rk5_12_0 (by decide) rfl rfl (X_msgIndex_pay hg8) <| ans1 <| Runs.istore (P' := [vr a, vi i1, vi i2, vi i3, vi r7]) d5_25 (by decide) rfl <| Runs.aloadN d5_27 rfl <| Runs.getA d5_28 fA_4 w19 (by decide) <| Runs.iload d5_31 rfl <| Runs.bipush d5_33 cb_8 <| Runs.imul d5_35 <| Runs.iloadN d5_36 rfl <| Runs.iadd d5_37 <| ?_
      refine chk_el hf fun hi9 hf => ?_
      obtain rfl := Option.some.inj hf
      exact Runs.ialoadA d5_38 fA_4 (by decide) hi9 <| Runs.retI d5_39 rfl ⟨by decide, by decide⟩ ⟨rfl, rfl⟩
theorem X_stamp_pay {C : Ctx} {top : Nat} {a : Nat} {H : List (Nat × Nat × Rec)} {ob : Rec} {res : Int32} {i1 : Int32} {i2 : Int32} {i3 : Int32} (hf : X_stamp ob i1 i2 i3 = some res) : Pays C B5 [.ref a, .int i1, .int i2, .int i3] (top, (a, 9, ob) :: H) (Ans (some (.int res)) (top, (a, 9, ob) :: H)) :=
  Pays.of pnK (Nat.le_of_ble_eq_true rfl) (P := [vr a, vi i1, vi i2, vi i3, vn]) 1 rfl (X_stamp_p i1 i2 i3 hf)
def X_copyIndex (ob : Rec) (i1 : Int32) (i2 : Int32) (i3 : Int32) : Option (Int32) :=
  some (((((i1 * (8 : Int32)) + i2) - (1 : Int32)) * (8 : Int32)) + i3)
set_option maxRecDepth 65536 in
set_option maxHeartbeats 4000000 in
theorem X_copyIndex_p {C : Ctx} {top : Nat} {a : Nat} {H : List (Nat × Nat × Rec)} {ob : Rec} {res : Int32} (i1 : Int32) (i2 : Int32) (i3 : Int32) (hf : X_copyIndex ob i1 i2 i3 = some res) : Runs C B16 0 0 0 [vr a, vi i1, vi i2, vi i3] [] (top, (a, 9, ob) :: H) (Ans (some (.int res)) (top, (a, 9, ob) :: H)) := by
  delta X_copyIndex at hf
  obtain rfl := Option.some.inj hf
  exact Runs.iloadN d16_0 rfl <| Runs.bipush d16_1 cb_8 <| Runs.imul d16_3 <| Runs.iloadN d16_4 rfl <| Runs.iadd d16_5 <| Runs.iconst d16_6 ci_1 <| Runs.isub d16_7 <| Runs.bipush d16_8 cb_8 <| Runs.imul d16_10 <| Runs.iloadN d16_11 rfl <| Runs.iadd d16_12 <| Runs.retI d16_13 rfl ⟨by decide, by decide⟩ ⟨rfl, rfl⟩
theorem X_copyIndex_pay {C : Ctx} {top : Nat} {a : Nat} {H : List (Nat × Nat × Rec)} {ob : Rec} {res : Int32} {i1 : Int32} {i2 : Int32} {i3 : Int32} (hf : X_copyIndex ob i1 i2 i3 = some res) : Pays C B16 [.ref a, .int i1, .int i2, .int i3] (top, (a, 9, ob) :: H) (Ans (some (.int res)) (top, (a, 9, ob) :: H)) :=
  Pays.of pnK (Nat.le_of_ble_eq_true rfl) (P := [vr a, vi i1, vi i2, vi i3]) 0 rfl (X_copyIndex_p i1 i2 i3 hf)
def X_copies (ob : Rec) (i1 : Int32) (i2 : Int32) (i3 : Int32) : Option (Int32) :=
  (X_exists ob i1 i2).bind fun r1 =>
  if r1 = (0 : Int32) then
    some (-1 : Int32)
  else
    (X_validProc ob i3).bind fun r4 =>
    if r4 = (0 : Int32) then
      some (-1 : Int32)
    else
      (X_copyIndex ob i1 i2 i3).bind fun r7 =>
      chk (512 : Int32) r7 <|
      some (gA ob 5 r7)
set_option maxRecDepth 65536 in
set_option maxHeartbeats 4000000 in
theorem X_copies_p {C : Ctx} {top : Nat} {a : Nat} {H : List (Nat × Nat × Rec)} {ob : Rec} {res : Int32} (i1 : Int32) (i2 : Int32) (i3 : Int32) (hf : X_copies ob i1 i2 i3 = some res) : Runs C B7 0 0 0 [vr a, vi i1, vi i2, vi i3, vn] [] (top, (a, 9, ob) :: H) (Ans (some (.int res)) (top, (a, 9, ob) :: H)) := by
  delta X_copies at hf
  refine Runs.aloadN d7_0 rfl <| Runs.iloadN d7_1 rfl <| Runs.iloadN d7_2 rfl <| ?_
  refine bind_el hf fun r1 hg2 hf => ?_
  refine Runs.callP (N := B6) (W := 0) (as := [.int i1, .int i2]) (S' := []) d7_3 w52 w53 w54 rfl cw6 ar6 rk7_6_0 (by decide) rfl rfl (X_exists_pay hg2) <| ans1 <| ?_
  refine ite_el hf (fun hc3 hf => ?_) (fun hc3 hf => ?_)
  · refine Runs.ifY (pc' := 17) d7_6 (teq hc3).1 (by decide) <| ?_
    obtain rfl := Option.some.inj hf
    exact Runs.iconst d7_17 ci_m1 <| Runs.retI d7_18 rfl ⟨by decide, by decide⟩ ⟨rfl, rfl⟩
  · refine Runs.ifN d7_6 (feq hc3).1 <| ?_
    refine Runs.aloadN d7_9 rfl <| Runs.iloadN d7_10 rfl <| ?_
    refine bind_el hf fun r4 hg5 hf => ?_
    refine Runs.callP (N := B3) (W := 0) (as := [.int i3]) (S' := []) d7_11 w38 w39 w40 rfl cw3 ar3 rk7_3_0 (by decide) rfl rfl (X_validProc_pay hg5) <| ans1 <| ?_
    refine ite_el hf (fun hc6 hf => ?_) (fun hc6 hf => ?_)
    · refine Runs.ifN d7_14 (teq hc6).2 <| ?_
      obtain rfl := Option.some.inj hf
      exact Runs.iconst d7_17 ci_m1 <| Runs.retI d7_18 rfl ⟨by decide, by decide⟩ ⟨rfl, rfl⟩
    · refine Runs.ifY (pc' := 19) d7_14 (feq hc6).2 (by decide) <| ?_
      refine Runs.aloadN d7_19 rfl <| Runs.iloadN d7_20 rfl <| Runs.iloadN d7_21 rfl <| Runs.iloadN d7_22 rfl <| ?_
      refine bind_el hf fun r7 hg8 hf => ?_
      refine Runs.callP (N := B16) (W := 0) (as := [.int i1, .int i2, .int i3]) (S' := []) d7_23 w97 w98 w99 rfl cw16 ar16 rk7_16_0 (by decide) rfl rfl (X_copyIndex_pay hg8) <| ans1 <| Runs.istore (P' := [vr a, vi i1, vi i2, vi i3, vi r7]) d7_26 (by decide) rfl <| Runs.aloadN d7_28 rfl <| Runs.getA d7_29 fA_5 w21 (by decide) <| Runs.iload d7_32 rfl <| ?_
      refine chk_el hf fun hi9 hf => ?_
      obtain rfl := Option.some.inj hf
      exact Runs.ialoadA d7_34 fA_5 (by decide) hi9 <| Runs.retI d7_35 rfl ⟨by decide, by decide⟩ ⟨rfl, rfl⟩
theorem X_copies_pay {C : Ctx} {top : Nat} {a : Nat} {H : List (Nat × Nat × Rec)} {ob : Rec} {res : Int32} {i1 : Int32} {i2 : Int32} {i3 : Int32} (hf : X_copies ob i1 i2 i3 = some res) : Pays C B7 [.ref a, .int i1, .int i2, .int i3] (top, (a, 9, ob) :: H) (Ans (some (.int res)) (top, (a, 9, ob) :: H)) :=
  Pays.of pnK (Nat.le_of_ble_eq_true rfl) (P := [vr a, vi i1, vi i2, vi i3, vn]) 1 rfl (X_copies_p i1 i2 i3 hf)
def X_state (ob : Rec) (i1 : Int32) (i2 : Int32) (i3 : Int32) : Option (Int32) :=
  (X_validProc ob i1).bind fun r1 =>
  if r1 = (0 : Int32) then
    some (-1 : Int32)
  else
    (X_exists ob i2 i3).bind fun r4 =>
    if r4 = (0 : Int32) then
      some (-1 : Int32)
    else
      (X_stateIndex ob i1 i2 i3).bind fun r7 =>
      chk (512 : Int32) r7 <|
      some (gA ob 3 r7)
set_option maxRecDepth 65536 in
set_option maxHeartbeats 4000000 in
theorem X_state_p {C : Ctx} {top : Nat} {a : Nat} {H : List (Nat × Nat × Rec)} {ob : Rec} {res : Int32} (i1 : Int32) (i2 : Int32) (i3 : Int32) (hf : X_state ob i1 i2 i3 = some res) : Runs C B8 0 0 0 [vr a, vi i1, vi i2, vi i3, vn] [] (top, (a, 9, ob) :: H) (Ans (some (.int res)) (top, (a, 9, ob) :: H)) := by
  delta X_state at hf
  refine Runs.aloadN d8_0 rfl <| Runs.iloadN d8_1 rfl <| ?_
  refine bind_el hf fun r1 hg2 hf => ?_
  refine Runs.callP (N := B3) (W := 0) (as := [.int i1]) (S' := []) d8_2 w38 w39 w40 rfl cw3 ar3 rk8_3_0 (by decide) rfl rfl (X_validProc_pay hg2) <| ans1 <| ?_
  refine ite_el hf (fun hc3 hf => ?_) (fun hc3 hf => ?_)
  · refine Runs.ifY (pc' := 17) d8_5 (teq hc3).1 (by decide) <| ?_
    obtain rfl := Option.some.inj hf
    exact Runs.iconst d8_17 ci_m1 <| Runs.retI d8_18 rfl ⟨by decide, by decide⟩ ⟨rfl, rfl⟩
  · refine Runs.ifN d8_5 (feq hc3).1 <| ?_
    refine Runs.aloadN d8_8 rfl <| Runs.iloadN d8_9 rfl <| Runs.iloadN d8_10 rfl <| ?_
    refine bind_el hf fun r4 hg5 hf => ?_
    refine Runs.callP (N := B6) (W := 0) (as := [.int i2, .int i3]) (S' := []) d8_11 w52 w53 w54 rfl cw6 ar6 rk8_6_0 (by decide) rfl rfl (X_exists_pay hg5) <| ans1 <| ?_
    refine ite_el hf (fun hc6 hf => ?_) (fun hc6 hf => ?_)
    · refine Runs.ifN d8_14 (teq hc6).2 <| ?_
      obtain rfl := Option.some.inj hf
      exact Runs.iconst d8_17 ci_m1 <| Runs.retI d8_18 rfl ⟨by decide, by decide⟩ ⟨rfl, rfl⟩
    · refine Runs.ifY (pc' := 19) d8_14 (feq hc6).2 (by decide) <| ?_
      refine Runs.aloadN d8_19 rfl <| Runs.iloadN d8_20 rfl <| Runs.iloadN d8_21 rfl <| Runs.iloadN d8_22 rfl <| ?_
      refine bind_el hf fun r7 hg8 hf => ?_
      refine Runs.callP (N := B14) (W := 0) (as := [.int i1, .int i2, .int i3]) (S' := []) d8_23 w89 w90 w91 rfl cw14 ar14 rk8_14_0 (by decide) rfl rfl (X_stateIndex_pay hg8) <| ans1 <| Runs.istore (P' := [vr a, vi i1, vi i2, vi i3, vi r7]) d8_26 (by decide) rfl <| Runs.aloadN d8_28 rfl <| Runs.getA d8_29 fA_3 w17 (by decide) <| Runs.iload d8_32 rfl <| ?_
      refine chk_el hf fun hi9 hf => ?_
      obtain rfl := Option.some.inj hf
      exact Runs.ialoadA d8_34 fA_3 (by decide) hi9 <| Runs.retI d8_35 rfl ⟨by decide, by decide⟩ ⟨rfl, rfl⟩
theorem X_state_pay {C : Ctx} {top : Nat} {a : Nat} {H : List (Nat × Nat × Rec)} {ob : Rec} {res : Int32} {i1 : Int32} {i2 : Int32} {i3 : Int32} (hf : X_state ob i1 i2 i3 = some res) : Pays C B8 [.ref a, .int i1, .int i2, .int i3] (top, (a, 9, ob) :: H) (Ans (some (.int res)) (top, (a, 9, ob) :: H)) :=
  Pays.of pnK (Nat.le_of_ble_eq_true rfl) (P := [vr a, vi i1, vi i2, vi i3, vn]) 1 rfl (X_state_p i1 i2 i3 hf)
def X_delivered (ob : Rec) (i1 : Int32) (i2 : Int32) : Option (Int32) :=
  (X_validProc ob i1).bind fun r1 =>
  if r1 = (0 : Int32) then
    some (-1 : Int32)
  else
    (X_validProc ob i2).bind fun r4 =>
    if r4 = (0 : Int32) then
      some (-1 : Int32)
    else
      chk (64 : Int32) ((i1 * (8 : Int32)) + i2) <|
      some (gA ob 2 ((i1 * (8 : Int32)) + i2))
set_option maxRecDepth 65536 in
set_option maxHeartbeats 4000000 in
theorem X_delivered_p {C : Ctx} {top : Nat} {a : Nat} {H : List (Nat × Nat × Rec)} {ob : Rec} {res : Int32} (i1 : Int32) (i2 : Int32) (hf : X_delivered ob i1 i2 = some res) : Runs C B9 0 0 0 [vr a, vi i1, vi i2] [] (top, (a, 9, ob) :: H) (Ans (some (.int res)) (top, (a, 9, ob) :: H)) := by
  delta X_delivered at hf
  refine Runs.aloadN d9_0 rfl <| Runs.iloadN d9_1 rfl <| ?_
  refine bind_el hf fun r1 hg2 hf => ?_
  refine Runs.callP (N := B3) (W := 0) (as := [.int i1]) (S' := []) d9_2 w38 w39 w40 rfl cw3 ar3 rk9_3_0 (by decide) rfl rfl (X_validProc_pay hg2) <| ans1 <| ?_
  refine ite_el hf (fun hc3 hf => ?_) (fun hc3 hf => ?_)
  · refine Runs.ifY (pc' := 16) d9_5 (teq hc3).1 (by decide) <| ?_
    obtain rfl := Option.some.inj hf
    exact Runs.iconst d9_16 ci_m1 <| Runs.retI d9_17 rfl ⟨by decide, by decide⟩ ⟨rfl, rfl⟩
  · refine Runs.ifN d9_5 (feq hc3).1 <| ?_
    refine Runs.aloadN d9_8 rfl <| Runs.iloadN d9_9 rfl <| ?_
    refine bind_el hf fun r4 hg5 hf => ?_
    refine Runs.callP (N := B3) (W := 0) (as := [.int i2]) (S' := []) d9_10 w38 w39 w40 rfl cw3 ar3 rk9_3_0 (by decide) rfl rfl (X_validProc_pay hg5) <| ans1 <| ?_
    refine ite_el hf (fun hc6 hf => ?_) (fun hc6 hf => ?_)
    · refine Runs.ifN d9_13 (teq hc6).2 <| ?_
      obtain rfl := Option.some.inj hf
      exact Runs.iconst d9_16 ci_m1 <| Runs.retI d9_17 rfl ⟨by decide, by decide⟩ ⟨rfl, rfl⟩
    · refine Runs.ifY (pc' := 18) d9_13 (feq hc6).2 (by decide) <| ?_
      refine Runs.aloadN d9_18 rfl <| Runs.getA d9_19 fA_2 w15 (by decide) <| Runs.iloadN d9_22 rfl <| Runs.bipush d9_23 cb_8 <| Runs.imul d9_25 <| Runs.iloadN d9_26 rfl <| Runs.iadd d9_27 <| ?_
      refine chk_el hf fun hi7 hf => ?_
      obtain rfl := Option.some.inj hf
      exact Runs.ialoadA d9_28 fA_2 (by decide) hi7 <| Runs.retI d9_29 rfl ⟨by decide, by decide⟩ ⟨rfl, rfl⟩
theorem X_delivered_pay {C : Ctx} {top : Nat} {a : Nat} {H : List (Nat × Nat × Rec)} {ob : Rec} {res : Int32} {i1 : Int32} {i2 : Int32} (hf : X_delivered ob i1 i2 = some res) : Pays C B9 [.ref a, .int i1, .int i2] (top, (a, 9, ob) :: H) (Ans (some (.int res)) (top, (a, 9, ob) :: H)) :=
  Pays.of pnK (Nat.le_of_ble_eq_true rfl) (P := [vr a, vi i1, vi i2]) 0 rfl (X_delivered_p i1 i2 hf)
def X_deliveredAt (ob : Rec) (i1 : Int32) (i2 : Int32) : Option (Int32) :=
  (X_validProc ob i1).bind fun r1 =>
  if r1 = (0 : Int32) then
    some (-1 : Int32)
  else
    if i2 < (0 : Int32) then
      some (-1 : Int32)
    else
      chk (8 : Int32) i1 <|
      if i2 < (gA ob 8 i1) then
        if i2 < (64 : Int32) then
          chk (512 : Int32) ((i1 * (64 : Int32)) + i2) <|
          some (gA ob 7 ((i1 * (64 : Int32)) + i2))
        else
          some (-1 : Int32)
      else
        some (-1 : Int32)
set_option maxRecDepth 65536 in
set_option maxHeartbeats 4000000 in
theorem X_deliveredAt_p {C : Ctx} {top : Nat} {a : Nat} {H : List (Nat × Nat × Rec)} {ob : Rec} {res : Int32} (i1 : Int32) (i2 : Int32) (hf : X_deliveredAt ob i1 i2 = some res) : Runs C B10 0 0 0 [vr a, vi i1, vi i2] [] (top, (a, 9, ob) :: H) (Ans (some (.int res)) (top, (a, 9, ob) :: H)) := by
  delta X_deliveredAt at hf
  refine Runs.aloadN d10_0 rfl <| Runs.iloadN d10_1 rfl <| ?_
  refine bind_el hf fun r1 hg2 hf => ?_
  refine Runs.callP (N := B3) (W := 0) (as := [.int i1]) (S' := []) d10_2 w38 w39 w40 rfl cw3 ar3 rk10_3_0 (by decide) rfl rfl (X_validProc_pay hg2) <| ans1 <| ?_
  refine ite_el hf (fun hc3 hf => ?_) (fun hc3 hf => ?_)
  · refine Runs.ifN d10_5 (teq hc3).2 <| ?_
    obtain rfl := Option.some.inj hf
    exact Runs.iconst d10_8 ci_m1 <| Runs.retI d10_9 rfl ⟨by decide, by decide⟩ ⟨rfl, rfl⟩
  · refine Runs.ifY (pc' := 10) d10_5 (feq hc3).2 (by decide) <| ?_
    refine Runs.iloadN d10_10 rfl <| ?_
    refine ite_el hf (fun hc4 hf => ?_) (fun hc4 hf => ?_)
    · refine Runs.ifY (pc' := 30) d10_11 (tlt hc4).1 (by decide) <| ?_
      obtain rfl := Option.some.inj hf
      exact Runs.iconst d10_30 ci_m1 <| Runs.retI d10_31 rfl ⟨by decide, by decide⟩ ⟨rfl, rfl⟩
    · refine Runs.ifN d10_11 (flt hc4).1 <| ?_
      refine Runs.iloadN d10_14 rfl <| Runs.aloadN d10_15 rfl <| Runs.getA d10_16 fA_8 w27 (by decide) <| Runs.iloadN d10_19 rfl <| ?_
      refine chk_el hf fun hi5 hf => ?_
      refine Runs.ialoadA d10_20 fA_8 (by decide) hi5 <| ?_
      refine ite_el hf (fun hc6 hf => ?_) (fun hc6 hf => ?_)
      · refine Runs.icN d10_21 (tlt hc6).2.1 <| ?_
        refine Runs.iloadN d10_24 rfl <| Runs.bipush d10_25 cb_64 <| ?_
        refine ite_el hf (fun hc7 hf => ?_) (fun hc7 hf => ?_)
        · refine Runs.icY (pc' := 32) d10_27 (tlt hc7).1 (by decide) <| ?_
          refine Runs.aloadN d10_32 rfl <| Runs.getA d10_33 fA_7 w25 (by decide) <| Runs.iloadN d10_36 rfl <| Runs.bipush d10_37 cb_64 <| Runs.imul d10_39 <| Runs.iloadN d10_40 rfl <| Runs.iadd d10_41 <| ?_
          refine chk_el hf fun hi8 hf => ?_
          obtain rfl := Option.some.inj hf
          exact Runs.ialoadA d10_42 fA_7 (by decide) hi8 <| Runs.retI d10_43 rfl ⟨by decide, by decide⟩ ⟨rfl, rfl⟩
        · refine Runs.icN d10_27 (flt hc7).1 <| ?_
          obtain rfl := Option.some.inj hf
          exact Runs.iconst d10_30 ci_m1 <| Runs.retI d10_31 rfl ⟨by decide, by decide⟩ ⟨rfl, rfl⟩
      · refine Runs.icY (pc' := 30) d10_21 (flt hc6).2.1 (by decide) <| ?_
        obtain rfl := Option.some.inj hf
        exact Runs.iconst d10_30 ci_m1 <| Runs.retI d10_31 rfl ⟨by decide, by decide⟩ ⟨rfl, rfl⟩
theorem X_deliveredAt_pay {C : Ctx} {top : Nat} {a : Nat} {H : List (Nat × Nat × Rec)} {ob : Rec} {res : Int32} {i1 : Int32} {i2 : Int32} (hf : X_deliveredAt ob i1 i2 = some res) : Pays C B10 [.ref a, .int i1, .int i2] (top, (a, 9, ob) :: H) (Ans (some (.int res)) (top, (a, 9, ob) :: H)) :=
  Pays.of pnK (Nat.le_of_ble_eq_true rfl) (P := [vr a, vi i1, vi i2]) 0 rfl (X_deliveredAt_p i1 i2 hf)
def X_known (ob : Rec) (i1 : Int32) (i2 : Int32) (i3 : Int32) : Option (Int32) :=
  (X_validProc ob i1).bind fun r1 =>
  if r1 = (0 : Int32) then
    some (-1 : Int32)
  else
    (X_validProc ob i2).bind fun r4 =>
    if r4 = (0 : Int32) then
      some (-1 : Int32)
    else
      (X_validProc ob i3).bind fun r7 =>
      if r7 = (0 : Int32) then
        some (-1 : Int32)
      else
        (X_knownIndex ob i1 i2 i3).bind fun r10 =>
        chk (512 : Int32) r10 <|
        some (gA ob 6 r10)
set_option maxRecDepth 65536 in
set_option maxHeartbeats 4000000 in
theorem X_known_p {C : Ctx} {top : Nat} {a : Nat} {H : List (Nat × Nat × Rec)} {ob : Rec} {res : Int32} (i1 : Int32) (i2 : Int32) (i3 : Int32) (hf : X_known ob i1 i2 i3 = some res) : Runs C B11 0 0 0 [vr a, vi i1, vi i2, vi i3, vn] [] (top, (a, 9, ob) :: H) (Ans (some (.int res)) (top, (a, 9, ob) :: H)) := by
  delta X_known at hf
  refine Runs.aloadN d11_0 rfl <| Runs.iloadN d11_1 rfl <| ?_
  refine bind_el hf fun r1 hg2 hf => ?_
  refine Runs.callP (N := B3) (W := 0) (as := [.int i1]) (S' := []) d11_2 w38 w39 w40 rfl cw3 ar3 rk11_3_0 (by decide) rfl rfl (X_validProc_pay hg2) <| ans1 <| ?_
  refine ite_el hf (fun hc3 hf => ?_) (fun hc3 hf => ?_)
  · refine Runs.ifY (pc' := 24) d11_5 (teq hc3).1 (by decide) <| ?_
    obtain rfl := Option.some.inj hf
    exact Runs.iconst d11_24 ci_m1 <| Runs.retI d11_25 rfl ⟨by decide, by decide⟩ ⟨rfl, rfl⟩
  · refine Runs.ifN d11_5 (feq hc3).1 <| ?_
    refine Runs.aloadN d11_8 rfl <| Runs.iloadN d11_9 rfl <| ?_
    refine bind_el hf fun r4 hg5 hf => ?_
    refine Runs.callP (N := B3) (W := 0) (as := [.int i2]) (S' := []) d11_10 w38 w39 w40 rfl cw3 ar3 rk11_3_0 (by decide) rfl rfl (X_validProc_pay hg5) <| ans1 <| ?_
    refine ite_el hf (fun hc6 hf => ?_) (fun hc6 hf => ?_)
    · refine Runs.ifY (pc' := 24) d11_13 (teq hc6).1 (by decide) <| ?_
      obtain rfl := Option.some.inj hf
      exact Runs.iconst d11_24 ci_m1 <| Runs.retI d11_25 rfl ⟨by decide, by decide⟩ ⟨rfl, rfl⟩
    · refine Runs.ifN d11_13 (feq hc6).1 <| ?_
      refine Runs.aloadN d11_16 rfl <| Runs.iloadN d11_17 rfl <| ?_
      refine bind_el hf fun r7 hg8 hf => ?_
      refine Runs.callP (N := B3) (W := 0) (as := [.int i3]) (S' := []) d11_18 w38 w39 w40 rfl cw3 ar3 rk11_3_0 (by decide) rfl rfl (X_validProc_pay hg8) <| ans1 <| ?_
      refine ite_el hf (fun hc9 hf => ?_) (fun hc9 hf => ?_)
      · refine Runs.ifN d11_21 (teq hc9).2 <| ?_
        obtain rfl := Option.some.inj hf
        exact Runs.iconst d11_24 ci_m1 <| Runs.retI d11_25 rfl ⟨by decide, by decide⟩ ⟨rfl, rfl⟩
      · refine Runs.ifY (pc' := 26) d11_21 (feq hc9).2 (by decide) <| ?_
        refine Runs.aloadN d11_26 rfl <| Runs.iloadN d11_27 rfl <| Runs.iloadN d11_28 rfl <| Runs.iloadN d11_29 rfl <| ?_
        refine bind_el hf fun r10 hg11 hf => ?_
        refine Runs.callP (N := B15) (W := 0) (as := [.int i1, .int i2, .int i3]) (S' := []) d11_30 w93 w94 w95 rfl cw15 ar15 rk11_15_0 (by decide) rfl rfl (X_knownIndex_pay hg11) <| ans1 <| Runs.istore (P' := [vr a, vi i1, vi i2, vi i3, vi r10]) d11_33 (by decide) rfl <| Runs.aloadN d11_35 rfl <| Runs.getA d11_36 fA_6 w23 (by decide) <| Runs.iload d11_39 rfl <| ?_
        refine chk_el hf fun hi12 hf => ?_
        obtain rfl := Option.some.inj hf
        exact Runs.ialoadA d11_41 fA_6 (by decide) hi12 <| Runs.retI d11_42 rfl ⟨by decide, by decide⟩ ⟨rfl, rfl⟩
theorem X_known_pay {C : Ctx} {top : Nat} {a : Nat} {H : List (Nat × Nat × Rec)} {ob : Rec} {res : Int32} {i1 : Int32} {i2 : Int32} {i3 : Int32} (hf : X_known ob i1 i2 i3 = some res) : Pays C B11 [.ref a, .int i1, .int i2, .int i3] (top, (a, 9, ob) :: H) (Ans (some (.int res)) (top, (a, 9, ob) :: H)) :=
  Pays.of pnK (Nat.le_of_ble_eq_true rfl) (P := [vr a, vi i1, vi i2, vi i3, vn]) 1 rfl (X_known_p i1 i2 i3 hf)
def L_law_b378 (NF : Nat) (ob : Rec) (t0 : Int32) (t1 : Int32) : Option (Int32) :=
  if t0 = t1 then
    some (1 : Int32)
  else
    some (0 : Int32)
set_option maxRecDepth 65536 in
set_option maxHeartbeats 4000000 in
theorem L_law_b378_p {C : Ctx} {res : Int32} {NF : Nat} (ob : Rec) (t0 : Int32) (t1 : Int32) (hf : L_law_b378 NF ob t0 t1 = some res) : Runs C B0 10 2659 378 [vn, vn, vn, vn, vn, vn, vn, vn, vn, vn, vn, vn, vn, vn, vn, vn, vn] [.int t1, .int t0] (C.2.2.1 + 1 + 9, (C.2.2.1, 9, ob) :: []) (fun v _ => v = (some (.int res))) := by
  delta L_law_b378 at hf
  refine ite_el hf (fun hc54 hf => ?_) (fun hc54 hf => ?_)
  · refine Runs.icY (pc' := 383) d0_378 (teq hc54).1 (by decide) <| ?_
    obtain rfl := Option.some.inj hf
    exact Runs.iconst d0_383 ci_1 <| Runs.retZ (y := (1 : Int32)) d0_384 rfl ⟨by decide, by decide⟩ rfl rfl
  · refine Runs.icN d0_378 (feq hc54).1 <| ?_
    obtain rfl := Option.some.inj hf
    exact Runs.iconst d0_381 ci_0 <| Runs.retZ (y := (0 : Int32)) d0_382 rfl ⟨by decide, by decide⟩ rfl rfl
def L_law_b238 (NF : Nat) (ob : Rec) (i1 : Int32) (i2 : Int32) (i3 : Int32) (i6 : Int32) (i9 : Int32) (i10 : Int32) (i11 : Int32) (i12 : Int32) (i13 : Int32) (i14 : Int32) (t0 : Int32) (t1 : Int32) : Option (Int32) :=
  if t0 = t1 then
    (X_sent ob i1).bind fun r26 =>
    if r26 = i9 then
      (X_stamp ob i1 (1 : Int32) i3).bind fun r29 =>
      if r29 = i10 then
        (X_copies ob i1 (1 : Int32) i2).bind fun r32 =>
        if r32 = i11 then
          (X_state ob i2 i1 (1 : Int32)).bind fun r35 =>
          if r35 = i12 then
            (X_delivered ob i1 i1).bind fun r38 =>
            if r38 = i9 then
              (X_deliveredAt ob i1 (0 : Int32)).bind fun r41 =>
              if r41 = i14 then
                (X_known ob i1 i1 i1).bind fun r44 =>
                if r44 = i9 then
                  (X_sent ob i2).bind fun r47 =>
                  if r47 = i13 then
                    bind2 (X_broadcast NF ob i1) fun r50 q51 =>
                    if i6 = (0 : Int32) then
                      L_law_b378 NF q51 r50 (-1 : Int32)
                    else
                      L_law_b378 NF q51 r50 (-3 : Int32)
                  else
                    some (0 : Int32)
                else
                  some (0 : Int32)
              else
                some (0 : Int32)
            else
              some (0 : Int32)
          else
            some (0 : Int32)
        else
          some (0 : Int32)
      else
        some (0 : Int32)
    else
      some (0 : Int32)
  else
    some (0 : Int32)
set_option maxRecDepth 65536 in
set_option maxHeartbeats 4000000 in
theorem L_law_b238_p {C : Ctx} {res : Int32} {NF : Nat} (ob : Rec) (i1 : Int32) (i2 : Int32) (i3 : Int32) (i6 : Int32) (i9 : Int32) (i10 : Int32) (i11 : Int32) (i12 : Int32) (i13 : Int32) (i14 : Int32) (t0 : Int32) (t1 : Int32) (hf : L_law_b238 NF ob i1 i2 i3 i6 i9 i10 i11 i12 i13 i14 t0 t1 = some res) : Runs C B0 10 2659 238 [vn, vi i1, vi i2, vi i3, vr C.2.2.1, vn, vi i6, vn, vn, vi i9, vi i10, vi i11, vi i12, vi i13, vi i14, vn, vn] [.int t1, .int t0] (C.2.2.1 + 1 + 9, (C.2.2.1, 9, ob) :: []) (fun v _ => v = (some (.int res))) := by
  delta L_law_b238 at hf
  refine ite_el hf (fun hc25 hf => ?_) (fun hc25 hf => ?_)
  · refine Runs.icY (pc' := 243) d0_238 (teq hc25).1 (by decide) <| ?_
    refine Runs.aload d0_243 rfl <| Runs.iloadN d0_245 rfl <| ?_
    refine bind_el hf fun r26 hg27 hf => ?_
    refine Runs.callV (N := B4) (W := 0) (as := [.int i1]) (S' := []) d0_246 w42 w43 w44 w45 cw4 ar4 rk0_4_0 (by decide) rfl rfl (X_sent_pay hg27) <| ans1 <| Runs.iload d0_249 rfl <| ?_
    refine ite_el hf (fun hc28 hf => ?_) (fun hc28 hf => ?_)
    · refine Runs.icY (pc' := 256) d0_251 (teq hc28).1 (by decide) <| ?_
      refine Runs.aload d0_256 rfl <| Runs.iloadN d0_258 rfl <| Runs.iconst d0_259 ci_1 <| Runs.iloadN d0_260 rfl <| ?_
      refine bind_el hf fun r29 hg30 hf => ?_
      refine Runs.callV (N := B5) (W := 0) (as := [.int i1, .int (1 : Int32), .int i3]) (S' := []) d0_261 w47 w48 w49 w50 cw5 ar5 rk0_5_0 (by decide) rfl rfl (X_stamp_pay hg30) <| ans1 <| Runs.iload d0_264 rfl <| ?_
      refine ite_el hf (fun hc31 hf => ?_) (fun hc31 hf => ?_)
      · refine Runs.icY (pc' := 271) d0_266 (teq hc31).1 (by decide) <| ?_
        refine Runs.aload d0_271 rfl <| Runs.iloadN d0_273 rfl <| Runs.iconst d0_274 ci_1 <| Runs.iloadN d0_275 rfl <| ?_
        refine bind_el hf fun r32 hg33 hf => ?_
        refine Runs.callV (N := B7) (W := 0) (as := [.int i1, .int (1 : Int32), .int i2]) (S' := []) d0_276 w56 w57 w58 w59 cw7 ar7 rk0_7_0 (by decide) rfl rfl (X_copies_pay hg33) <| ans1 <| Runs.iload d0_279 rfl <| ?_
        refine ite_el hf (fun hc34 hf => ?_) (fun hc34 hf => ?_)
        · refine Runs.icY (pc' := 286) d0_281 (teq hc34).1 (by decide) <| ?_
          refine Runs.aload d0_286 rfl <| Runs.iloadN d0_288 rfl <| Runs.iloadN d0_289 rfl <| Runs.iconst d0_290 ci_1 <| ?_
          refine bind_el hf fun r35 hg36 hf => ?_
          refine Runs.callV (N := B8) (W := 0) (as := [.int i2, .int i1, .int (1 : Int32)]) (S' := []) d0_291 w61 w62 w63 w64 cw8 ar8 rk0_8_0 (by decide) rfl rfl (X_state_pay hg36) <| ans1 <| Runs.iload d0_294 rfl <| ?_
          refine ite_el hf (fun hc37 hf => ?_) (fun hc37 hf => ?_)
          · refine Runs.icY (pc' := 301) d0_296 (teq hc37).1 (by decide) <| ?_
            refine Runs.aload d0_301 rfl <| Runs.iloadN d0_303 rfl <| Runs.iloadN d0_304 rfl <| ?_
            refine bind_el hf fun r38 hg39 hf => ?_
            refine Runs.callV (N := B9) (W := 0) (as := [.int i1, .int i1]) (S' := []) d0_305 w66 w67 w68 w69 cw9 ar9 rk0_9_0 (by decide) rfl rfl (X_delivered_pay hg39) <| ans1 <| Runs.iload d0_308 rfl <| ?_
            refine ite_el hf (fun hc40 hf => ?_) (fun hc40 hf => ?_)
            · refine Runs.icY (pc' := 315) d0_310 (teq hc40).1 (by decide) <| ?_
              refine Runs.aload d0_315 rfl <| Runs.iloadN d0_317 rfl <| Runs.iconst d0_318 ci_0 <| ?_
              refine bind_el hf fun r41 hg42 hf => ?_
              refine Runs.callV (N := B10) (W := 0) (as := [.int i1, .int (0 : Int32)]) (S' := []) d0_319 w71 w72 w73 w74 cw10 ar10 rk0_10_0 (by decide) rfl rfl (X_deliveredAt_pay hg42) <| ans1 <| Runs.iload d0_322 rfl <| ?_
              refine ite_el hf (fun hc43 hf => ?_) (fun hc43 hf => ?_)
              · refine Runs.icY (pc' := 329) d0_324 (teq hc43).1 (by decide) <| ?_
                refine Runs.aload d0_329 rfl <| Runs.iloadN d0_331 rfl <| Runs.iloadN d0_332 rfl <| Runs.iloadN d0_333 rfl <| ?_
                refine bind_el hf fun r44 hg45 hf => ?_
                refine Runs.callV (N := B11) (W := 0) (as := [.int i1, .int i1, .int i1]) (S' := []) d0_334 w76 w77 w78 w79 cw11 ar11 rk0_11_0 (by decide) rfl rfl (X_known_pay hg45) <| ans1 <| Runs.iload d0_337 rfl <| ?_
                refine ite_el hf (fun hc46 hf => ?_) (fun hc46 hf => ?_)
                · refine Runs.icY (pc' := 344) d0_339 (teq hc46).1 (by decide) <| ?_
                  refine Runs.aload d0_344 rfl <| Runs.iloadN d0_346 rfl <| ?_
                  refine bind_el hf fun r47 hg48 hf => ?_
                  refine Runs.callV (N := B4) (W := 0) (as := [.int i2]) (S' := []) d0_347 w42 w43 w44 w45 cw4 ar4 rk0_4_0 (by decide) rfl rfl (X_sent_pay hg48) <| ans1 <| Runs.iload d0_350 rfl <| ?_
                  refine ite_el hf (fun hc49 hf => ?_) (fun hc49 hf => ?_)
                  · refine Runs.icY (pc' := 357) d0_352 (teq hc49).1 (by decide) <| ?_
                    refine Runs.aload d0_357 rfl <| Runs.iloadN d0_359 rfl <| ?_
                    refine bind2_el hf fun r50 q51 hg52 hf => ?_
                    refine Runs.callV (N := B2) (W := 0) (as := [.int i1]) (S' := []) d0_360 w33 w34 w35 w36 cw2 ar2 rk0_2_0 (by decide) rfl rfl (X_broadcast_pay hg52) <| ans1 <| Runs.istore (P' := [vn, vi i1, vi i2, vi i3, vr C.2.2.1, vn, vi i6, vn, vn, vi i9, vi i10, vi i11, vi i12, vi i13, vi i14, vn, vi r50]) d0_363 (by decide) rfl <| Runs.iload d0_365 rfl <| Runs.iload d0_367 rfl <| ?_
                    refine ite_el hf (fun hc53 hf => ?_) (fun hc53 hf => ?_)
                    · refine Runs.ifY (pc' := 377) d0_369 (teq hc53).1 (by decide) <| ?_
                      exact Runs.iconst d0_377 ci_m1 <| Runs.forget [false, false, false, false, false, false, false, false, false, false, false, false, false, false, false, false, false] rfl <| L_law_b378_p q51 r50 (-1 : Int32) hf
                    · refine Runs.ifN d0_369 (feq hc53).1 <| ?_
                      exact Runs.bipush d0_372 cb_m3 <| Runs.goto (pc' := 378) d0_374 (by decide) <| Runs.forget [false, false, false, false, false, false, false, false, false, false, false, false, false, false, false, false, false] rfl <| L_law_b378_p q51 r50 (-3 : Int32) hf
                  · refine Runs.icN d0_352 (feq hc49).1 <| ?_
                    obtain rfl := Option.some.inj hf
                    exact Runs.iconst d0_355 ci_0 <| Runs.retZ (y := (0 : Int32)) d0_356 rfl ⟨by decide, by decide⟩ rfl rfl
                · refine Runs.icN d0_339 (feq hc46).1 <| ?_
                  obtain rfl := Option.some.inj hf
                  exact Runs.iconst d0_342 ci_0 <| Runs.retZ (y := (0 : Int32)) d0_343 rfl ⟨by decide, by decide⟩ rfl rfl
              · refine Runs.icN d0_324 (feq hc43).1 <| ?_
                obtain rfl := Option.some.inj hf
                exact Runs.iconst d0_327 ci_0 <| Runs.retZ (y := (0 : Int32)) d0_328 rfl ⟨by decide, by decide⟩ rfl rfl
            · refine Runs.icN d0_310 (feq hc40).1 <| ?_
              obtain rfl := Option.some.inj hf
              exact Runs.iconst d0_313 ci_0 <| Runs.retZ (y := (0 : Int32)) d0_314 rfl ⟨by decide, by decide⟩ rfl rfl
          · refine Runs.icN d0_296 (feq hc37).1 <| ?_
            obtain rfl := Option.some.inj hf
            exact Runs.iconst d0_299 ci_0 <| Runs.retZ (y := (0 : Int32)) d0_300 rfl ⟨by decide, by decide⟩ rfl rfl
        · refine Runs.icN d0_281 (feq hc34).1 <| ?_
          obtain rfl := Option.some.inj hf
          exact Runs.iconst d0_284 ci_0 <| Runs.retZ (y := (0 : Int32)) d0_285 rfl ⟨by decide, by decide⟩ rfl rfl
      · refine Runs.icN d0_266 (feq hc31).1 <| ?_
        obtain rfl := Option.some.inj hf
        exact Runs.iconst d0_269 ci_0 <| Runs.retZ (y := (0 : Int32)) d0_270 rfl ⟨by decide, by decide⟩ rfl rfl
    · refine Runs.icN d0_251 (feq hc28).1 <| ?_
      obtain rfl := Option.some.inj hf
      exact Runs.iconst d0_254 ci_0 <| Runs.retZ (y := (0 : Int32)) d0_255 rfl ⟨by decide, by decide⟩ rfl rfl
  · refine Runs.icN d0_238 (feq hc25).1 <| ?_
    obtain rfl := Option.some.inj hf
    exact Runs.iconst d0_241 ci_0 <| Runs.retZ (y := (0 : Int32)) d0_242 rfl ⟨by decide, by decide⟩ rfl rfl
def L_law_b216 (NF : Nat) (ob : Rec) (i1 : Int32) (i2 : Int32) (i3 : Int32) (i6 : Int32) (i9 : Int32) (i10 : Int32) (i11 : Int32) (i12 : Int32) (i13 : Int32) (t0 : Int32) : Option (Int32) :=
  bind2 (X_broadcast NF ob i1) fun r21 q22 =>
  if i6 = (0 : Int32) then
    L_law_b238 NF q22 i1 i2 i3 i6 i9 i10 i11 i12 i13 t0 r21 (-1 : Int32)
  else
    L_law_b238 NF q22 i1 i2 i3 i6 i9 i10 i11 i12 i13 t0 r21 (1 : Int32)
set_option maxRecDepth 65536 in
set_option maxHeartbeats 4000000 in
theorem L_law_b216_p {C : Ctx} {res : Int32} {NF : Nat} (ob : Rec) (i1 : Int32) (i2 : Int32) (i3 : Int32) (i6 : Int32) (i9 : Int32) (i10 : Int32) (i11 : Int32) (i12 : Int32) (i13 : Int32) (t0 : Int32) (hf : L_law_b216 NF ob i1 i2 i3 i6 i9 i10 i11 i12 i13 t0 = some res) : Runs C B0 10 2659 216 [vn, vi i1, vi i2, vi i3, vr C.2.2.1, vn, vi i6, vn, vn, vi i9, vi i10, vi i11, vi i12, vi i13, vn, vn, vn] [.int t0] (C.2.2.1 + 1 + 9, (C.2.2.1, 9, ob) :: []) (fun v _ => v = (some (.int res))) := by
  delta L_law_b216 at hf
  refine Runs.istore (P' := [vn, vi i1, vi i2, vi i3, vr C.2.2.1, vn, vi i6, vn, vn, vi i9, vi i10, vi i11, vi i12, vi i13, vi t0, vn, vn]) d0_216 (by decide) rfl <| Runs.aload d0_218 rfl <| Runs.iloadN d0_220 rfl <| ?_
  refine bind2_el hf fun r21 q22 hg23 hf => ?_
  refine Runs.callV (N := B2) (W := 0) (as := [.int i1]) (S' := []) d0_221 w33 w34 w35 w36 cw2 ar2 rk0_2_0 (by decide) rfl rfl (X_broadcast_pay hg23) <| ans1 <| Runs.istore (P' := [vn, vi i1, vi i2, vi i3, vr C.2.2.1, vn, vi i6, vn, vn, vi i9, vi i10, vi i11, vi i12, vi i13, vi t0, vi r21, vn]) d0_224 (by decide) rfl <| Runs.iload d0_226 rfl <| Runs.iload d0_228 rfl <| ?_
  refine ite_el hf (fun hc24 hf => ?_) (fun hc24 hf => ?_)
  · refine Runs.ifY (pc' := 237) d0_230 (teq hc24).1 (by decide) <| ?_
    exact Runs.iconst d0_237 ci_m1 <| Runs.forget [false, true, true, true, true, false, true, false, false, true, true, true, true, true, true, false, false] rfl <| L_law_b238_p q22 i1 i2 i3 i6 i9 i10 i11 i12 i13 t0 r21 (-1 : Int32) hf
  · refine Runs.ifN d0_230 (feq hc24).1 <| ?_
    exact Runs.iconst d0_233 ci_1 <| Runs.goto (pc' := 238) d0_234 (by decide) <| Runs.forget [false, true, true, true, true, false, true, false, false, true, true, true, true, true, true, false, false] rfl <| L_law_b238_p q22 i1 i2 i3 i6 i9 i10 i11 i12 i13 t0 r21 (1 : Int32) hf
def L_law_b199 (NF : Nat) (ob : Rec) (i1 : Int32) (i2 : Int32) (i3 : Int32) (i6 : Int32) (i9 : Int32) (i10 : Int32) (i11 : Int32) (i12 : Int32) (t0 : Int32) : Option (Int32) :=
  if i6 = (0 : Int32) then
    L_law_b216 NF ob i1 i2 i3 i6 i9 i10 i11 i12 t0 (-1 : Int32)
  else
    L_law_b216 NF ob i1 i2 i3 i6 i9 i10 i11 i12 t0 ((i1 * (16 : Int32)) + (1 : Int32))
set_option maxRecDepth 65536 in
set_option maxHeartbeats 4000000 in
theorem L_law_b199_p {C : Ctx} {res : Int32} {NF : Nat} (ob : Rec) (i1 : Int32) (i2 : Int32) (i3 : Int32) (i6 : Int32) (i9 : Int32) (i10 : Int32) (i11 : Int32) (i12 : Int32) (t0 : Int32) (hf : L_law_b199 NF ob i1 i2 i3 i6 i9 i10 i11 i12 t0 = some res) : Runs C B0 10 2659 199 [vn, vi i1, vi i2, vi i3, vr C.2.2.1, vn, vi i6, vn, vn, vi i9, vi i10, vi i11, vi i12, vn, vn, vn, vn] [.int t0] (C.2.2.1 + 1 + 9, (C.2.2.1, 9, ob) :: []) (fun v _ => v = (some (.int res))) := by
  delta L_law_b199 at hf
  refine Runs.istore (P' := [vn, vi i1, vi i2, vi i3, vr C.2.2.1, vn, vi i6, vn, vn, vi i9, vi i10, vi i11, vi i12, vi t0, vn, vn, vn]) d0_199 (by decide) rfl <| Runs.iload d0_201 rfl <| ?_
  refine ite_el hf (fun hc20 hf => ?_) (fun hc20 hf => ?_)
  · refine Runs.ifY (pc' := 215) d0_203 (teq hc20).1 (by decide) <| ?_
    exact Runs.iconst d0_215 ci_m1 <| L_law_b216_p ob i1 i2 i3 i6 i9 i10 i11 i12 t0 (-1 : Int32) hf
  · refine Runs.ifN d0_203 (feq hc20).1 <| ?_
    exact Runs.iloadN d0_206 rfl <| Runs.bipush d0_207 cb_16 <| Runs.imul d0_209 <| Runs.iconst d0_210 ci_1 <| Runs.iadd d0_211 <| Runs.goto (pc' := 216) d0_212 (by decide) <| L_law_b216_p ob i1 i2 i3 i6 i9 i10 i11 i12 t0 ((i1 * (16 : Int32)) + (1 : Int32)) hf
def L_law_b173 (NF : Nat) (ob : Rec) (i1 : Int32) (i2 : Int32) (i3 : Int32) (i6 : Int32) (i7 : Int32) (i9 : Int32) (i10 : Int32) (i11 : Int32) (t0 : Int32) : Option (Int32) :=
  if i7 = (0 : Int32) then
    L_law_b199 NF ob i1 i2 i3 i6 i9 i10 i11 t0 (-1 : Int32)
  else
    if i6 = (0 : Int32) then
      L_law_b199 NF ob i1 i2 i3 i6 i9 i10 i11 t0 (0 : Int32)
    else
      if i2 = i1 then
        L_law_b199 NF ob i1 i2 i3 i6 i9 i10 i11 t0 (1 : Int32)
      else
        L_law_b199 NF ob i1 i2 i3 i6 i9 i10 i11 t0 (0 : Int32)
set_option maxRecDepth 65536 in
set_option maxHeartbeats 4000000 in
theorem L_law_b173_p {C : Ctx} {res : Int32} {NF : Nat} (ob : Rec) (i1 : Int32) (i2 : Int32) (i3 : Int32) (i6 : Int32) (i7 : Int32) (i9 : Int32) (i10 : Int32) (i11 : Int32) (t0 : Int32) (hf : L_law_b173 NF ob i1 i2 i3 i6 i7 i9 i10 i11 t0 = some res) : Runs C B0 10 2659 173 [vn, vi i1, vi i2, vi i3, vr C.2.2.1, vn, vi i6, vi i7, vn, vi i9, vi i10, vi i11, vn, vn, vn, vn, vn] [.int t0] (C.2.2.1 + 1 + 9, (C.2.2.1, 9, ob) :: []) (fun v _ => v = (some (.int res))) := by
  delta L_law_b173 at hf
  refine Runs.istore (P' := [vn, vi i1, vi i2, vi i3, vr C.2.2.1, vn, vi i6, vi i7, vn, vi i9, vi i10, vi i11, vi t0, vn, vn, vn, vn]) d0_173 (by decide) rfl <| Runs.iload d0_175 rfl <| ?_
  refine ite_el hf (fun hc17 hf => ?_) (fun hc17 hf => ?_)
  · refine Runs.ifN d0_177 (teq hc17).2 <| ?_
    exact Runs.iconst d0_180 ci_m1 <| Runs.goto (pc' := 199) d0_181 (by decide) <| Runs.forget [false, true, true, true, true, false, true, false, false, true, true, true, true, false, false, false, false] rfl <| L_law_b199_p ob i1 i2 i3 i6 i9 i10 i11 t0 (-1 : Int32) hf
  · refine Runs.ifY (pc' := 184) d0_177 (feq hc17).2 (by decide) <| ?_
    refine Runs.iload d0_184 rfl <| ?_
    refine ite_el hf (fun hc18 hf => ?_) (fun hc18 hf => ?_)
    · refine Runs.ifY (pc' := 198) d0_186 (teq hc18).1 (by decide) <| ?_
      exact Runs.iconst d0_198 ci_0 <| Runs.forget [false, true, true, true, true, false, true, false, false, true, true, true, true, false, false, false, false] rfl <| L_law_b199_p ob i1 i2 i3 i6 i9 i10 i11 t0 (0 : Int32) hf
    · refine Runs.ifN d0_186 (feq hc18).1 <| ?_
      refine Runs.iloadN d0_189 rfl <| Runs.iloadN d0_190 rfl <| ?_
      refine ite_el hf (fun hc19 hf => ?_) (fun hc19 hf => ?_)
      · refine Runs.icN d0_191 (teq hc19).2 <| ?_
        exact Runs.iconst d0_194 ci_1 <| Runs.goto (pc' := 199) d0_195 (by decide) <| Runs.forget [false, true, true, true, true, false, true, false, false, true, true, true, true, false, false, false, false] rfl <| L_law_b199_p ob i1 i2 i3 i6 i9 i10 i11 t0 (1 : Int32) hf
      · refine Runs.icY (pc' := 198) d0_191 (feq hc19).2 (by decide) <| ?_
        exact Runs.iconst d0_198 ci_0 <| Runs.forget [false, true, true, true, true, false, true, false, false, true, true, true, true, false, false, false, false] rfl <| L_law_b199_p ob i1 i2 i3 i6 i9 i10 i11 t0 (0 : Int32) hf
def L_law_b147 (NF : Nat) (ob : Rec) (i1 : Int32) (i2 : Int32) (i3 : Int32) (i6 : Int32) (i7 : Int32) (i9 : Int32) (i10 : Int32) (t0 : Int32) : Option (Int32) :=
  if i6 = (0 : Int32) then
    L_law_b173 NF ob i1 i2 i3 i6 i7 i9 i10 t0 (-1 : Int32)
  else
    if i7 = (0 : Int32) then
      L_law_b173 NF ob i1 i2 i3 i6 i7 i9 i10 t0 (-1 : Int32)
    else
      if i2 = i1 then
        L_law_b173 NF ob i1 i2 i3 i6 i7 i9 i10 t0 (2 : Int32)
      else
        L_law_b173 NF ob i1 i2 i3 i6 i7 i9 i10 t0 (0 : Int32)
set_option maxRecDepth 65536 in
set_option maxHeartbeats 4000000 in
theorem L_law_b147_p {C : Ctx} {res : Int32} {NF : Nat} (ob : Rec) (i1 : Int32) (i2 : Int32) (i3 : Int32) (i6 : Int32) (i7 : Int32) (i9 : Int32) (i10 : Int32) (t0 : Int32) (hf : L_law_b147 NF ob i1 i2 i3 i6 i7 i9 i10 t0 = some res) : Runs C B0 10 2659 147 [vn, vi i1, vi i2, vi i3, vr C.2.2.1, vn, vi i6, vi i7, vn, vi i9, vi i10, vn, vn, vn, vn, vn, vn] [.int t0] (C.2.2.1 + 1 + 9, (C.2.2.1, 9, ob) :: []) (fun v _ => v = (some (.int res))) := by
  delta L_law_b147 at hf
  refine Runs.istore (P' := [vn, vi i1, vi i2, vi i3, vr C.2.2.1, vn, vi i6, vi i7, vn, vi i9, vi i10, vi t0, vn, vn, vn, vn, vn]) d0_147 (by decide) rfl <| Runs.iload d0_149 rfl <| ?_
  refine ite_el hf (fun hc14 hf => ?_) (fun hc14 hf => ?_)
  · refine Runs.ifY (pc' := 159) d0_151 (teq hc14).1 (by decide) <| ?_
    exact Runs.iconst d0_159 ci_m1 <| Runs.goto (pc' := 173) d0_160 (by decide) <| L_law_b173_p ob i1 i2 i3 i6 i7 i9 i10 t0 (-1 : Int32) hf
  · refine Runs.ifN d0_151 (feq hc14).1 <| ?_
    refine Runs.iload d0_154 rfl <| ?_
    refine ite_el hf (fun hc15 hf => ?_) (fun hc15 hf => ?_)
    · refine Runs.ifN d0_156 (teq hc15).2 <| ?_
      exact Runs.iconst d0_159 ci_m1 <| Runs.goto (pc' := 173) d0_160 (by decide) <| L_law_b173_p ob i1 i2 i3 i6 i7 i9 i10 t0 (-1 : Int32) hf
    · refine Runs.ifY (pc' := 163) d0_156 (feq hc15).2 (by decide) <| ?_
      refine Runs.iloadN d0_163 rfl <| Runs.iloadN d0_164 rfl <| ?_
      refine ite_el hf (fun hc16 hf => ?_) (fun hc16 hf => ?_)
      · refine Runs.icN d0_165 (teq hc16).2 <| ?_
        exact Runs.iconst d0_168 ci_2 <| Runs.goto (pc' := 173) d0_169 (by decide) <| L_law_b173_p ob i1 i2 i3 i6 i7 i9 i10 t0 (2 : Int32) hf
      · refine Runs.icY (pc' := 172) d0_165 (feq hc16).2 (by decide) <| ?_
        exact Runs.iconst d0_172 ci_0 <| L_law_b173_p ob i1 i2 i3 i6 i7 i9 i10 t0 (0 : Int32) hf
def L_law_b121 (NF : Nat) (ob : Rec) (i1 : Int32) (i2 : Int32) (i3 : Int32) (i6 : Int32) (i7 : Int32) (i9 : Int32) (t0 : Int32) : Option (Int32) :=
  if i6 = (0 : Int32) then
    L_law_b147 NF ob i1 i2 i3 i6 i7 i9 t0 (-1 : Int32)
  else
    if i7 = (0 : Int32) then
      L_law_b147 NF ob i1 i2 i3 i6 i7 i9 t0 (-1 : Int32)
    else
      if i2 = i1 then
        L_law_b147 NF ob i1 i2 i3 i6 i7 i9 t0 (0 : Int32)
      else
        L_law_b147 NF ob i1 i2 i3 i6 i7 i9 t0 (1 : Int32)
set_option maxRecDepth 65536 in
set_option maxHeartbeats 4000000 in
theorem L_law_b121_p {C : Ctx} {res : Int32} {NF : Nat} (ob : Rec) (i1 : Int32) (i2 : Int32) (i3 : Int32) (i6 : Int32) (i7 : Int32) (i9 : Int32) (t0 : Int32) (hf : L_law_b121 NF ob i1 i2 i3 i6 i7 i9 t0 = some res) : Runs C B0 10 2659 121 [vn, vi i1, vi i2, vi i3, vr C.2.2.1, vn, vi i6, vi i7, vn, vi i9, vn, vn, vn, vn, vn, vn, vn] [.int t0] (C.2.2.1 + 1 + 9, (C.2.2.1, 9, ob) :: []) (fun v _ => v = (some (.int res))) := by
  delta L_law_b121 at hf
  refine Runs.istore (P' := [vn, vi i1, vi i2, vi i3, vr C.2.2.1, vn, vi i6, vi i7, vn, vi i9, vi t0, vn, vn, vn, vn, vn, vn]) d0_121 (by decide) rfl <| Runs.iload d0_123 rfl <| ?_
  refine ite_el hf (fun hc11 hf => ?_) (fun hc11 hf => ?_)
  · refine Runs.ifY (pc' := 133) d0_125 (teq hc11).1 (by decide) <| ?_
    exact Runs.iconst d0_133 ci_m1 <| Runs.goto (pc' := 147) d0_134 (by decide) <| L_law_b147_p ob i1 i2 i3 i6 i7 i9 t0 (-1 : Int32) hf
  · refine Runs.ifN d0_125 (feq hc11).1 <| ?_
    refine Runs.iload d0_128 rfl <| ?_
    refine ite_el hf (fun hc12 hf => ?_) (fun hc12 hf => ?_)
    · refine Runs.ifN d0_130 (teq hc12).2 <| ?_
      exact Runs.iconst d0_133 ci_m1 <| Runs.goto (pc' := 147) d0_134 (by decide) <| L_law_b147_p ob i1 i2 i3 i6 i7 i9 t0 (-1 : Int32) hf
    · refine Runs.ifY (pc' := 137) d0_130 (feq hc12).2 (by decide) <| ?_
      refine Runs.iloadN d0_137 rfl <| Runs.iloadN d0_138 rfl <| ?_
      refine ite_el hf (fun hc13 hf => ?_) (fun hc13 hf => ?_)
      · refine Runs.icN d0_139 (teq hc13).2 <| ?_
        exact Runs.iconst d0_142 ci_0 <| Runs.goto (pc' := 147) d0_143 (by decide) <| L_law_b147_p ob i1 i2 i3 i6 i7 i9 t0 (0 : Int32) hf
      · refine Runs.icY (pc' := 146) d0_139 (feq hc13).2 (by decide) <| ?_
        exact Runs.iconst d0_146 ci_1 <| L_law_b147_p ob i1 i2 i3 i6 i7 i9 t0 (1 : Int32) hf
def L_law_b95 (NF : Nat) (ob : Rec) (i1 : Int32) (i2 : Int32) (i3 : Int32) (i6 : Int32) (i7 : Int32) (i8 : Int32) (t0 : Int32) : Option (Int32) :=
  if i6 = (0 : Int32) then
    L_law_b121 NF ob i1 i2 i3 i6 i7 t0 (-1 : Int32)
  else
    if i8 = (0 : Int32) then
      L_law_b121 NF ob i1 i2 i3 i6 i7 t0 (-1 : Int32)
    else
      if i3 = i1 then
        L_law_b121 NF ob i1 i2 i3 i6 i7 t0 (1 : Int32)
      else
        L_law_b121 NF ob i1 i2 i3 i6 i7 t0 (0 : Int32)
set_option maxRecDepth 65536 in
set_option maxHeartbeats 4000000 in
theorem L_law_b95_p {C : Ctx} {res : Int32} {NF : Nat} (ob : Rec) (i1 : Int32) (i2 : Int32) (i3 : Int32) (i6 : Int32) (i7 : Int32) (i8 : Int32) (t0 : Int32) (hf : L_law_b95 NF ob i1 i2 i3 i6 i7 i8 t0 = some res) : Runs C B0 10 2659 95 [vn, vi i1, vi i2, vi i3, vr C.2.2.1, vn, vi i6, vi i7, vi i8, vn, vn, vn, vn, vn, vn, vn, vn] [.int t0] (C.2.2.1 + 1 + 9, (C.2.2.1, 9, ob) :: []) (fun v _ => v = (some (.int res))) := by
  delta L_law_b95 at hf
  refine Runs.istore (P' := [vn, vi i1, vi i2, vi i3, vr C.2.2.1, vn, vi i6, vi i7, vi i8, vi t0, vn, vn, vn, vn, vn, vn, vn]) d0_95 (by decide) rfl <| Runs.iload d0_97 rfl <| ?_
  refine ite_el hf (fun hc8 hf => ?_) (fun hc8 hf => ?_)
  · refine Runs.ifY (pc' := 107) d0_99 (teq hc8).1 (by decide) <| ?_
    exact Runs.iconst d0_107 ci_m1 <| Runs.goto (pc' := 121) d0_108 (by decide) <| Runs.forget [false, true, true, true, true, false, true, true, false, true, false, false, false, false, false, false, false] rfl <| L_law_b121_p ob i1 i2 i3 i6 i7 t0 (-1 : Int32) hf
  · refine Runs.ifN d0_99 (feq hc8).1 <| ?_
    refine Runs.iload d0_102 rfl <| ?_
    refine ite_el hf (fun hc9 hf => ?_) (fun hc9 hf => ?_)
    · refine Runs.ifN d0_104 (teq hc9).2 <| ?_
      exact Runs.iconst d0_107 ci_m1 <| Runs.goto (pc' := 121) d0_108 (by decide) <| Runs.forget [false, true, true, true, true, false, true, true, false, true, false, false, false, false, false, false, false] rfl <| L_law_b121_p ob i1 i2 i3 i6 i7 t0 (-1 : Int32) hf
    · refine Runs.ifY (pc' := 111) d0_104 (feq hc9).2 (by decide) <| ?_
      refine Runs.iloadN d0_111 rfl <| Runs.iloadN d0_112 rfl <| ?_
      refine ite_el hf (fun hc10 hf => ?_) (fun hc10 hf => ?_)
      · refine Runs.icN d0_113 (teq hc10).2 <| ?_
        exact Runs.iconst d0_116 ci_1 <| Runs.goto (pc' := 121) d0_117 (by decide) <| Runs.forget [false, true, true, true, true, false, true, true, false, true, false, false, false, false, false, false, false] rfl <| L_law_b121_p ob i1 i2 i3 i6 i7 t0 (1 : Int32) hf
      · refine Runs.icY (pc' := 120) d0_113 (feq hc10).2 (by decide) <| ?_
        exact Runs.iconst d0_120 ci_0 <| Runs.forget [false, true, true, true, true, false, true, true, false, true, false, false, false, false, false, false, false] rfl <| L_law_b121_p ob i1 i2 i3 i6 i7 t0 (0 : Int32) hf
def L_law_b83 (NF : Nat) (ob : Rec) (i1 : Int32) (i2 : Int32) (i3 : Int32) (i6 : Int32) (i7 : Int32) (t0 : Int32) : Option (Int32) :=
  if i6 = (0 : Int32) then
    L_law_b95 NF ob i1 i2 i3 i6 i7 t0 (-1 : Int32)
  else
    L_law_b95 NF ob i1 i2 i3 i6 i7 t0 (1 : Int32)
set_option maxRecDepth 65536 in
set_option maxHeartbeats 4000000 in
theorem L_law_b83_p {C : Ctx} {res : Int32} {NF : Nat} (ob : Rec) (i1 : Int32) (i2 : Int32) (i3 : Int32) (i6 : Int32) (i7 : Int32) (t0 : Int32) (hf : L_law_b83 NF ob i1 i2 i3 i6 i7 t0 = some res) : Runs C B0 10 2659 83 [vn, vi i1, vi i2, vi i3, vr C.2.2.1, vn, vi i6, vi i7, vn, vn, vn, vn, vn, vn, vn, vn, vn] [.int t0] (C.2.2.1 + 1 + 9, (C.2.2.1, 9, ob) :: []) (fun v _ => v = (some (.int res))) := by
  delta L_law_b83 at hf
  refine Runs.istore (P' := [vn, vi i1, vi i2, vi i3, vr C.2.2.1, vn, vi i6, vi i7, vi t0, vn, vn, vn, vn, vn, vn, vn, vn]) d0_83 (by decide) rfl <| Runs.iload d0_85 rfl <| ?_
  refine ite_el hf (fun hc7 hf => ?_) (fun hc7 hf => ?_)
  · refine Runs.ifY (pc' := 94) d0_87 (teq hc7).1 (by decide) <| ?_
    exact Runs.iconst d0_94 ci_m1 <| L_law_b95_p ob i1 i2 i3 i6 i7 t0 (-1 : Int32) hf
  · refine Runs.ifN d0_87 (feq hc7).1 <| ?_
    exact Runs.iconst d0_90 ci_1 <| Runs.goto (pc' := 95) d0_91 (by decide) <| L_law_b95_p ob i1 i2 i3 i6 i7 t0 (1 : Int32) hf
def L_law_b66 (NF : Nat) (ob : Rec) (i1 : Int32) (i2 : Int32) (i3 : Int32) (i5 : Int32) (i6 : Int32) (t0 : Int32) : Option (Int32) :=
  if i3 < (0 : Int32) then
    L_law_b83 NF ob i1 i2 i3 i6 t0 (0 : Int32)
  else
    if i3 < i5 then
      L_law_b83 NF ob i1 i2 i3 i6 t0 (1 : Int32)
    else
      L_law_b83 NF ob i1 i2 i3 i6 t0 (0 : Int32)
set_option maxRecDepth 65536 in
set_option maxHeartbeats 4000000 in
theorem L_law_b66_p {C : Ctx} {res : Int32} {NF : Nat} (ob : Rec) (i1 : Int32) (i2 : Int32) (i3 : Int32) (i5 : Int32) (i6 : Int32) (t0 : Int32) (hf : L_law_b66 NF ob i1 i2 i3 i5 i6 t0 = some res) : Runs C B0 10 2659 66 [vn, vi i1, vi i2, vi i3, vr C.2.2.1, vi i5, vi i6, vn, vn, vn, vn, vn, vn, vn, vn, vn, vn] [.int t0] (C.2.2.1 + 1 + 9, (C.2.2.1, 9, ob) :: []) (fun v _ => v = (some (.int res))) := by
  delta L_law_b66 at hf
  refine Runs.istore (P' := [vn, vi i1, vi i2, vi i3, vr C.2.2.1, vi i5, vi i6, vi t0, vn, vn, vn, vn, vn, vn, vn, vn, vn]) d0_66 (by decide) rfl <| Runs.iloadN d0_68 rfl <| ?_
  refine ite_el hf (fun hc5 hf => ?_) (fun hc5 hf => ?_)
  · refine Runs.ifY (pc' := 82) d0_69 (tlt hc5).1 (by decide) <| ?_
    exact Runs.iconst d0_82 ci_0 <| Runs.forget [false, true, true, true, true, false, true, true, false, false, false, false, false, false, false, false, false] rfl <| L_law_b83_p ob i1 i2 i3 i6 t0 (0 : Int32) hf
  · refine Runs.ifN d0_69 (flt hc5).1 <| ?_
    refine Runs.iloadN d0_72 rfl <| Runs.iload d0_73 rfl <| ?_
    refine ite_el hf (fun hc6 hf => ?_) (fun hc6 hf => ?_)
    · refine Runs.icN d0_75 (tlt hc6).2.1 <| ?_
      exact Runs.iconst d0_78 ci_1 <| Runs.goto (pc' := 83) d0_79 (by decide) <| Runs.forget [false, true, true, true, true, false, true, true, false, false, false, false, false, false, false, false, false] rfl <| L_law_b83_p ob i1 i2 i3 i6 t0 (1 : Int32) hf
    · refine Runs.icY (pc' := 82) d0_75 (flt hc6).2.1 (by decide) <| ?_
      exact Runs.iconst d0_82 ci_0 <| Runs.forget [false, true, true, true, true, false, true, true, false, false, false, false, false, false, false, false, false] rfl <| L_law_b83_p ob i1 i2 i3 i6 t0 (0 : Int32) hf
def L_law_b49 (NF : Nat) (ob : Rec) (i1 : Int32) (i2 : Int32) (i3 : Int32) (i5 : Int32) (t0 : Int32) : Option (Int32) :=
  if i2 < (0 : Int32) then
    L_law_b66 NF ob i1 i2 i3 i5 t0 (0 : Int32)
  else
    if i2 < i5 then
      L_law_b66 NF ob i1 i2 i3 i5 t0 (1 : Int32)
    else
      L_law_b66 NF ob i1 i2 i3 i5 t0 (0 : Int32)
set_option maxRecDepth 65536 in
set_option maxHeartbeats 4000000 in
theorem L_law_b49_p {C : Ctx} {res : Int32} {NF : Nat} (ob : Rec) (i1 : Int32) (i2 : Int32) (i3 : Int32) (i5 : Int32) (t0 : Int32) (hf : L_law_b49 NF ob i1 i2 i3 i5 t0 = some res) : Runs C B0 10 2659 49 [vn, vi i1, vi i2, vi i3, vr C.2.2.1, vi i5, vn, vn, vn, vn, vn, vn, vn, vn, vn, vn, vn] [.int t0] (C.2.2.1 + 1 + 9, (C.2.2.1, 9, ob) :: []) (fun v _ => v = (some (.int res))) := by
  delta L_law_b49 at hf
  refine Runs.istore (P' := [vn, vi i1, vi i2, vi i3, vr C.2.2.1, vi i5, vi t0, vn, vn, vn, vn, vn, vn, vn, vn, vn, vn]) d0_49 (by decide) rfl <| Runs.iloadN d0_51 rfl <| ?_
  refine ite_el hf (fun hc3 hf => ?_) (fun hc3 hf => ?_)
  · refine Runs.ifY (pc' := 65) d0_52 (tlt hc3).1 (by decide) <| ?_
    exact Runs.iconst d0_65 ci_0 <| L_law_b66_p ob i1 i2 i3 i5 t0 (0 : Int32) hf
  · refine Runs.ifN d0_52 (flt hc3).1 <| ?_
    refine Runs.iloadN d0_55 rfl <| Runs.iload d0_56 rfl <| ?_
    refine ite_el hf (fun hc4 hf => ?_) (fun hc4 hf => ?_)
    · refine Runs.icN d0_58 (tlt hc4).2.1 <| ?_
      exact Runs.iconst d0_61 ci_1 <| Runs.goto (pc' := 66) d0_62 (by decide) <| L_law_b66_p ob i1 i2 i3 i5 t0 (1 : Int32) hf
    · refine Runs.icY (pc' := 65) d0_58 (flt hc4).2.1 (by decide) <| ?_
      exact Runs.iconst d0_65 ci_0 <| L_law_b66_p ob i1 i2 i3 i5 t0 (0 : Int32) hf
def L_law_b32 (NF : Nat) (ob : Rec) (i1 : Int32) (i2 : Int32) (i3 : Int32) (t0 : Int32) : Option (Int32) :=
  if i1 < (0 : Int32) then
    L_law_b49 NF ob i1 i2 i3 t0 (0 : Int32)
  else
    if i1 < t0 then
      L_law_b49 NF ob i1 i2 i3 t0 (1 : Int32)
    else
      L_law_b49 NF ob i1 i2 i3 t0 (0 : Int32)
set_option maxRecDepth 65536 in
set_option maxHeartbeats 4000000 in
theorem L_law_b32_p {C : Ctx} {res : Int32} {NF : Nat} (ob : Rec) (i1 : Int32) (i2 : Int32) (i3 : Int32) (t0 : Int32) (hf : L_law_b32 NF ob i1 i2 i3 t0 = some res) : Runs C B0 10 2659 32 [vn, vi i1, vi i2, vi i3, vr C.2.2.1, vn, vn, vn, vn, vn, vn, vn, vn, vn, vn, vn, vn] [.int t0] (C.2.2.1 + 1 + 9, (C.2.2.1, 9, ob) :: []) (fun v _ => v = (some (.int res))) := by
  delta L_law_b32 at hf
  refine Runs.istore (P' := [vn, vi i1, vi i2, vi i3, vr C.2.2.1, vi t0, vn, vn, vn, vn, vn, vn, vn, vn, vn, vn, vn]) d0_32 (by decide) rfl <| Runs.iloadN d0_34 rfl <| ?_
  refine ite_el hf (fun hc1 hf => ?_) (fun hc1 hf => ?_)
  · refine Runs.ifY (pc' := 48) d0_35 (tlt hc1).1 (by decide) <| ?_
    exact Runs.iconst d0_48 ci_0 <| L_law_b49_p ob i1 i2 i3 t0 (0 : Int32) hf
  · refine Runs.ifN d0_35 (flt hc1).1 <| ?_
    refine Runs.iloadN d0_38 rfl <| Runs.iload d0_39 rfl <| ?_
    refine ite_el hf (fun hc2 hf => ?_) (fun hc2 hf => ?_)
    · refine Runs.icN d0_41 (tlt hc2).2.1 <| ?_
      exact Runs.iconst d0_44 ci_1 <| Runs.goto (pc' := 49) d0_45 (by decide) <| L_law_b49_p ob i1 i2 i3 t0 (1 : Int32) hf
    · refine Runs.icY (pc' := 48) d0_41 (flt hc2).2.1 (by decide) <| ?_
      exact Runs.iconst d0_48 ci_0 <| L_law_b49_p ob i1 i2 i3 t0 (0 : Int32) hf
def L_law (NF : Nat) (i0 : Int32) (i1 : Int32) (i2 : Int32) (i3 : Int32) : Option (Int32) :=
  (X_init i0 (1 : Int32)).bind fun q55 =>
  if i0 < (2 : Int32) then
    L_law_b32 NF q55 i1 i2 i3 (2 : Int32)
  else
    if (8 : Int32) < i0 then
      L_law_b32 NF q55 i1 i2 i3 (8 : Int32)
    else
      L_law_b32 NF q55 i1 i2 i3 i0
set_option maxRecDepth 65536 in
set_option maxHeartbeats 4000000 in
theorem L_law_p {C : Ctx} {res : Int32} {NF : Nat} (i0 : Int32) (i1 : Int32) (i2 : Int32) (i3 : Int32) (hf : L_law NF i0 i1 i2 i3 = some res) : Runs C B0 0 0 0 [vi i0, vi i1, vi i2, vi i3, vn, vn, vn, vn, vn, vn, vn, vn, vn, vn, vn, vn, vn] [] (C.2.2.1, []) (fun v _ => v = (some (.int res))) := by
  delta L_law at hf
  refine Runs.newK (k' := 1) (n' := 11) d0_0 w0 ⟨by decide, by decide⟩ rfl rfl (by intro x hx; cases hx) <| Runs.dup d0_3 rfl <| Runs.iloadN d0_4 rfl <| Runs.iconst d0_5 ci_1 <| ?_
  refine bind_el hf fun q55 hg56 hf => ?_
  refine Runs.callI (N := B1) (k' := 10) (n' := 2659) (W := 1) (as := [.int i0, .int (1 : Int32)]) (S' := [.ref C.2.2.1]) d0_6 rfl rfl w3 w4 cw1 ar1 (by decide) rfl rfl rfl rfl (X_init_pay hg56) <| ans0 <| Runs.astore (P' := [vi i0, vi i1, vi i2, vi i3, vr C.2.2.1, vn, vn, vn, vn, vn, vn, vn, vn, vn, vn, vn, vn]) d0_9 (by decide) rfl <| Runs.iloadN d0_11 rfl <| Runs.iconst d0_12 ci_2 <| ?_
  refine ite_el hf (fun hc57 hf => ?_) (fun hc57 hf => ?_)
  · refine Runs.icN d0_13 (tlt hc57).2.1 <| ?_
    exact Runs.iconst d0_16 ci_2 <| Runs.goto (pc' := 32) d0_17 (by decide) <| Runs.forget [false, true, true, true, true, false, false, false, false, false, false, false, false, false, false, false, false] rfl <| L_law_b32_p q55 i1 i2 i3 (2 : Int32) hf
  · refine Runs.icY (pc' := 20) d0_13 (flt hc57).2.1 (by decide) <| ?_
    refine Runs.iloadN d0_20 rfl <| Runs.bipush d0_21 cb_8 <| ?_
    refine ite_el hf (fun hc58 hf => ?_) (fun hc58 hf => ?_)
    · refine Runs.icN d0_23 (tlt hc58).2.2.2 <| ?_
      exact Runs.bipush d0_26 cb_8 <| Runs.goto (pc' := 32) d0_28 (by decide) <| Runs.forget [false, true, true, true, true, false, false, false, false, false, false, false, false, false, false, false, false] rfl <| L_law_b32_p q55 i1 i2 i3 (8 : Int32) hf
    · refine Runs.icY (pc' := 31) d0_23 (flt hc58).2.2.2 (by decide) <| ?_
      exact Runs.iloadN d0_31 rfl <| Runs.forget [false, true, true, true, true, false, false, false, false, false, false, false, false, false, false, false, false] rfl <| L_law_b32_p q55 i1 i2 i3 i0 hf
theorem L_law_pay {C : Ctx} {res : Int32} {NF : Nat} {i0 : Int32} {i1 : Int32} {i2 : Int32} {i3 : Int32} (hf : L_law NF i0 i1 i2 i3 = some res) : Pays C B0 [.int i0, .int i1, .int i2, .int i3] (C.2.2.1, []) (fun v _ => v = (some (.int res))) :=
  Pays.of pnL (Nat.le_of_ble_eq_true rfl) (P := [vi i0, vi i1, vi i2, vi i3, vn, vn, vn, vn, vn, vn, vn, vn, vn, vn, vn, vn, vn]) 13 rfl (L_law_p i0 i1 i2 i3 hf)
--OWED--
theorem gI_sI (ob : Rec) (k j : Nat) (v : Int32) : gI (sI ob k v) j = if j = k then v else gI ob j := rfl
theorem gI_sA (ob : Rec) (k j : Nat) (i v : Int32) : gI (sA ob k i v) j = gI ob j := rfl
theorem gI_sJ (ob : Rec) (k j : Nat) (i : Int32) (v : Int64) : gI (sJ ob k i v) j = gI ob j := rfl
theorem gA_sI (ob : Rec) (k j : Nat) (v x : Int32) : gA (sI ob k v) j x = gA ob j x := rfl
theorem gA_sA (ob : Rec) (k j : Nat) (i v x : Int32) : gA (sA ob k i v) j x = if j = k ∧ x = i then v else gA ob j x := rfl
theorem gA_sJ (ob : Rec) (k j : Nat) (i x : Int32) (v : Int64) : gA (sJ ob k i v) j x = gA ob j x := rfl
theorem gJ_sI (ob : Rec) (k j : Nat) (v x : Int32) : gJ (sI ob k v) j x = gJ ob j x := rfl
theorem gJ_sA (ob : Rec) (k j : Nat) (i v x : Int32) : gJ (sA ob k i v) j x = gJ ob j x := rfl
theorem gJ_sJ (ob : Rec) (k j : Nat) (i x : Int32) (v : Int64) : gJ (sJ ob k i v) j x = if j = k ∧ x = i then v else gJ ob j x := rfl
theorem gI_z (k : Nat) : gI zrec k = 0 := rfl
theorem gA_z (k : Nat) (i : Int32) : gA zrec k i = 0 := rfl
theorem gJ_z (k : Nat) (i : Int32) : gJ zrec k i = 0 := rfl
theorem chk_ok {γ : Type} {n i : Int32} {A : Option γ} (h : 0 ≤ i.toInt ∧ i.toInt < n.toInt) : chk n i A = A := by
  have h0 : ¬ i < 0 := by rw [Int32.lt_iff_toInt_lt]; show ¬ i.toInt < 0; omega
  have h1 : i < n := by rw [Int32.lt_iff_toInt_lt]; exact h.2
  unfold chk; rw [if_neg h0, if_pos h1]
theorem lt_i {x y : Int32} : x < y ↔ x.toInt < y.toInt := Int32.lt_iff_toInt_lt
theorem le_i {x y : Int32} : x ≤ y ↔ x.toInt ≤ y.toInt := Int32.le_iff_toInt_le
theorem eq_i32 {x y : Int32} : x = y ↔ x.toInt = y.toInt := Int32.toInt_inj.symm
theorem bm_id {n : Int} (h : -2147483648 ≤ n ∧ n < 2147483648) : n.bmod (2 ^ 32) = n := Int.bmod_eq_of_le (by omega) (by omega)
theorem ad {x y : Int32} (h : -2147483648 ≤ x.toInt + y.toInt ∧ x.toInt + y.toInt < 2147483648) : (x + y).toInt = x.toInt + y.toInt := by rw [Int32.toInt_add, bm_id h]
theorem sb {x y : Int32} (h : -2147483648 ≤ x.toInt - y.toInt ∧ x.toInt - y.toInt < 2147483648) : (x - y).toInt = x.toInt - y.toInt := by rw [Int32.toInt_sub, bm_id h]
theorem ml {x y : Int32} (h : -2147483648 ≤ x.toInt * y.toInt ∧ x.toInt * y.toInt < 2147483648) : (x * y).toInt = x.toInt * y.toInt := by rw [Int32.toInt_mul, bm_id h]
theorem bind2_some {α β γ : Type} (a : α) (b : β) (f : α → β → Option γ) : bind2 (some (a, b)) f = f a b := rfl
def CInv (ob : Rec) : Prop := 2 ≤ (gI ob 0).toInt ∧ (gI ob 0).toInt ≤ 8 ∧ 1 ≤ (gI ob 1).toInt ∧ (gI ob 1).toInt ≤ 8 ∧ (∀ o, 0 ≤ (gA ob 0 o).toInt ∧ (gA ob 0 o).toInt ≤ (gI ob 1).toInt) ∧ (∀ i, 0 ≤ (gA ob 5 i).toInt ∧ (gA ob 5 i).toInt ≤ 3) ∧ (∀ i, gA ob 1 i = 0 ∨ gA ob 1 i = 1)
/-- scalars and the arrays that CInv speaks of are as they were -/
def CSame (ob ob' : Rec) : Prop := ob'.1 = ob.1 ∧ (∀ i, gA ob' 0 i = gA ob 0 i) ∧ (∀ i, gA ob' 1 i = gA ob 1 i) ∧ (∀ i, gA ob' 5 i = gA ob 5 i)
theorem CSame.refl (ob : Rec) : CSame ob ob := ⟨rfl, fun _ => rfl, fun _ => rfl, fun _ => rfl⟩
theorem CSame.trans {a b c : Rec} (h : CSame a b) (g : CSame b c) : CSame a c := ⟨g.1.trans h.1, fun i => (g.2.1 i).trans (h.2.1 i), fun i => (g.2.2.1 i).trans (h.2.2.1 i), fun i => (g.2.2.2 i).trans (h.2.2.2 i)⟩
theorem CSame.n {a b : Rec} (h : CSame a b) (k : Nat) : gI b k = gI a k := by unfold gI; rw [h.1]
theorem CSame.inv {a b : Rec} (h : CSame a b) (i : CInv a) : CInv b := by
  obtain ⟨i1, i2, i3, i4, i5, i6, i7⟩ := i
  unfold CInv
  rw [h.n 0, h.n 1]
  exact ⟨i1, i2, i3, i4, fun o => by rw [h.2.1]; exact i5 o, fun o => by rw [h.2.2.2]; exact i6 o, fun o => by rw [h.2.2.1]; exact i7 o⟩
theorem CSame.sA {a : Rec} (k : Nat) (i v : Int32) (h : k ≠ 0 ∧ k ≠ 1 ∧ k ≠ 5) : CSame a (sA a k i v) := by
  refine ⟨rfl, fun x => ?_, fun x => ?_, fun x => ?_⟩ <;> (rw [gA_sA, if_neg]; rintro ⟨e, -⟩; omega)
theorem t0 : (0 : Int32).toInt = 0 := rfl
theorem t1 : (1 : Int32).toInt = 1 := rfl
theorem t2 : (2 : Int32).toInt = 2 := rfl
theorem t3 : (3 : Int32).toInt = 3 := rfl
theorem t8 : (8 : Int32).toInt = 8 := rfl
theorem t16 : (16 : Int32).toInt = 16 := rfl
theorem t64 : (64 : Int32).toInt = 64 := rfl
theorem t65 : (65 : Int32).toInt = 65 := rfl
theorem t512 : (512 : Int32).toInt = 512 := rfl
theorem ix8 {p o : Int32} (hp : 0 ≤ p.toInt ∧ p.toInt < 64) (ho : 0 ≤ o.toInt ∧ o.toInt < 64) : (p * 8 + o).toInt = p.toInt * 8 + o.toInt := by
  have e : (p * 8).toInt = p.toInt * 8 := by rw [ml (by rw [t8]; omega), t8]
  rw [ad (by omega), e]
theorem ix64 {p o : Int32} (hp : 0 ≤ p.toInt ∧ p.toInt < 64) (ho : 0 ≤ o.toInt ∧ o.toInt < 64) : (p * 64 + o).toInt = p.toInt * 64 + o.toInt := by
  have e : (p * 64).toInt = p.toInt * 64 := by rw [ml (by rw [t64]; omega), t64]
  rw [ad (by omega), e]
theorem ix3 {p q o : Int32} (hp : 0 ≤ p.toInt ∧ p.toInt < 64) (hq : 0 ≤ q.toInt ∧ q.toInt < 64) (ho : 0 ≤ o.toInt ∧ o.toInt < 64) : (p * 64 + q * 8 + o).toInt = p.toInt * 64 + q.toInt * 8 + o.toInt := by
  have e : (p * 64).toInt = p.toInt * 64 := by rw [ml (by rw [t64]; omega), t64]
  have e' : (q * 8).toInt = q.toInt * 8 := by rw [ml (by rw [t8]; omega), t8]
  have e2 : (p * 64 + q * 8).toInt = p.toInt * 64 + q.toInt * 8 := by rw [ad (by omega), e, e']
  rw [ad (by omega), e2]
theorem ixm {o s : Int32} (ho : 0 ≤ o.toInt ∧ o.toInt < 64) (hs : 1 ≤ s.toInt ∧ s.toInt < 64) : (o * 8 + s - 1).toInt = o.toInt * 8 + s.toInt - 1 := by
  have e := ix8 ho (o := s) ⟨by omega, hs.2⟩
  rw [sb (by rw [t1]; omega), e, t1]
theorem ixs {p o s : Int32} (hp : 0 ≤ p.toInt ∧ p.toInt < 64) (ho : 0 ≤ o.toInt ∧ o.toInt < 64) (hs : 1 ≤ s.toInt ∧ s.toInt < 64) : (p * 64 + o * 8 + s - 1).toInt = p.toInt * 64 + o.toInt * 8 + s.toInt - 1 := by
  have e := ix3 hp ho (o := s) ⟨by omega, hs.2⟩
  rw [sb (by rw [t1]; omega), e, t1]
theorem ixc {o s d : Int32} (ho : 0 ≤ o.toInt ∧ o.toInt < 8) (hs : 1 ≤ s.toInt ∧ s.toInt ≤ 8) (hd : 0 ≤ d.toInt ∧ d.toInt < 64) : ((o * 8 + s - 1) * 8 + d).toInt = (o.toInt * 8 + s.toInt - 1) * 8 + d.toInt := by
  have e := ixm (o := o) (s := s) (by omega) (by omega)
  rw [ix8 (by omega) hd, e]
theorem vp_in {ob : Rec} {p : Int32} (h : 0 ≤ p.toInt ∧ p.toInt < (gI ob 0).toInt) : X_validProc ob p = some 1 := by
  have h0 : ¬ p < 0 := by rw [lt_i, t0]; omega
  have h1 : p < gI ob 0 := by rw [lt_i]; omega
  unfold X_validProc; rw [if_neg h0, if_pos h1]
theorem vp_out {ob : Rec} {p : Int32} (h : ¬ (0 ≤ p.toInt ∧ p.toInt < (gI ob 0).toInt)) : X_validProc ob p = some 0 := by
  unfold X_validProc
  by_cases h0 : p < 0
  · rw [if_pos h0]
  · have h1 : ¬ p < gI ob 0 := by rw [lt_i]; rw [lt_i, t0] at h0; omega
    rw [if_neg h0, if_neg h1]
def ExP (ob : Rec) (o s : Int32) : Prop := 0 ≤ o.toInt ∧ o.toInt < (gI ob 0).toInt ∧ 1 ≤ s.toInt ∧ s.toInt ≤ (gA ob 0 o).toInt
theorem ex_in {ob : Rec} {o s : Int32} (i : CInv ob) (h : ExP ob o s) : X_exists ob o s = some 1 := by
  obtain ⟨h1, h2, h3, h4⟩ := h
  have a0 : ¬ o < 0 := by rw [lt_i, t0]; omega
  have a1 : o < gI ob 0 := by rw [lt_i]; omega
  have a2 : ¬ s < 1 := by rw [lt_i, t1]; omega
  have a3 : ¬ gA ob 0 o < s := by rw [lt_i]; omega
  unfold X_exists; rw [if_neg a0, if_pos a1, if_neg a2, chk_ok (by have := i.2.1; rw [t8]; omega), if_neg a3]
theorem ex_out {ob : Rec} {o s : Int32} (i : CInv ob) (h : ¬ ExP ob o s) : X_exists ob o s = some 0 := by
  unfold ExP at h
  unfold X_exists
  by_cases a0 : o < 0
  · rw [if_pos a0]
  · by_cases a1 : o < gI ob 0
    · by_cases a2 : s < 1
      · rw [if_neg a0, if_pos a1, if_pos a2]
      · rw [lt_i] at a1
        rw [lt_i, t0] at a0
        have a3 : gA ob 0 o < s := by rw [lt_i]; rw [lt_i, t1] at a2; omega
        have a0' : ¬ o < 0 := by rw [lt_i, t0]; exact a0
        have a1' : o < gI ob 0 := by rw [lt_i]; exact a1
        rw [if_neg a0', if_pos a1', if_neg a2, chk_ok (by have := i.2.1; rw [t8]; omega), if_pos a3]
    · rw [if_neg a0, if_neg a1]
theorem ex_bd {ob : Rec} {o s : Int32} (i : CInv ob) (h : ExP ob o s) : 0 ≤ o.toInt ∧ o.toInt < 8 ∧ 1 ≤ s.toInt ∧ s.toInt ≤ 8 := by
  obtain ⟨h1, h2, h3, h4⟩ := h
  obtain ⟨i1, i2, i3, i4, i5, -⟩ := i
  have := i5 o
  omega
theorem dl_ok {ob : Rec} {p o s : Int32} (hp : 0 ≤ p.toInt ∧ p.toInt < 8) (ho : 0 ≤ o.toInt ∧ o.toInt < 8) (hs : 1 ≤ s.toInt ∧ s.toInt ≤ 8) : ∃ ob', X_deliverAt ob p o s = some ob' ∧ CSame ob ob' := by
  have e1 := ixs (p := p) (o := o) (s := s) (by omega) (by omega) (by omega)
  have e2 := ix8 (p := p) (o := o) (by omega) (by omega)
  have e3 := ix3 (p := p) (q := p) (o := o) (by omega) (by omega) (by omega)
  have q512 : ∀ A : Option Rec, chk 512 (p * 64 + o * 8 + s - 1) A = A := fun A => chk_ok (by rw [t512]; omega)
  have q64 : ∀ A : Option Rec, chk 64 (p * 8 + o) A = A := fun A => chk_ok (by rw [t64]; omega)
  have q8 : ∀ A : Option Rec, chk 8 p A = A := fun A => chk_ok (by rw [t8]; omega)
  have qk : ∀ A : Option Rec, chk 512 (p * 64 + p * 8 + o) A = A := fun A => chk_ok (by rw [t512]; omega)
  unfold X_deliverAt X_stateIndex
  simp only [Option.bind_some, q512, q64, q8]
  by_cases c1 : gA ob 8 p < 0
  · rw [if_pos c1]
    unfold X_deliverAt_b89 X_knownIndex
    simp only [Option.bind_some, q64, qk]
    exact ⟨_, rfl, ((CSame.sA _ _ _ (by omega)).trans (CSame.sA _ _ _ (by omega))).trans (CSame.sA _ _ _ (by omega))⟩
  · rw [if_neg c1]
    by_cases c2 : gA ob 8 p < 64
    · rw [if_pos c2]
      have e4 := ix64 (p := p) (o := gA ob 8 p) (by omega) (by rw [lt_i, t0] at c1; rw [lt_i, t64] at c2; omega)
      have qq : ∀ A : Option Rec, chk 512 (p * 64 + gA ob 8 p) A = A := fun A => chk_ok (by rw [lt_i, t0] at c1; rw [lt_i, t64] at c2; rw [t512]; omega)
      unfold X_deliverAt_b89 X_knownIndex
      simp only [Option.bind_some, q64, qk, qq]
      exact ⟨_, rfl, ((((CSame.sA _ _ _ (by omega)).trans (CSame.sA _ _ _ (by omega))).trans (CSame.sA _ _ _ (by omega))).trans (CSame.sA _ _ _ (by omega))).trans (CSame.sA _ _ _ (by omega))⟩
    · rw [if_neg c2]
      unfold X_deliverAt_b89 X_knownIndex
      simp only [Option.bind_some, q64, qk]
      exact ⟨_, rfl, ((CSame.sA _ _ _ (by omega)).trans (CSame.sA _ _ _ (by omega))).trans (CSame.sA _ _ _ (by omega))⟩
theorem CInv.copy {ob : Rec} (i : CInv ob) {x v : Int32} (hv : 0 ≤ v.toInt ∧ v.toInt ≤ 3) : CInv (sA ob 5 x v) := by
  obtain ⟨i1, i2, i3, i4, i5, i6, i7⟩ := i
  refine ⟨i1, i2, i3, i4, fun o => by rw [gA_sA, if_neg (by rintro ⟨e, -⟩; omega)]; exact i5 o, fun o => ?_, fun o => by rw [gA_sA, if_neg (by rintro ⟨e, -⟩; omega)]; exact i7 o⟩
  rw [gA_sA]
  split
  · exact hv
  · exact i6 o
theorem succ8 {i : Int32} (h : 0 ≤ i.toInt ∧ i.toInt < 1000) : (i + 1).toInt = i.toInt + 1 := by rw [ad (by rw [t1]; omega), t1]
theorem bc125 (NF : Nat) (p s r : Int32) (hr : 0 ≤ r.toInt ∧ r.toInt < 64) : ∀ (m fuel : Nat) (ob : Rec) (i : Int32), m < fuel → CInv ob → 0 ≤ i.toInt → i.toInt ≤ (gI ob 0).toInt → (gI ob 0).toInt - i.toInt ≤ m → ∃ ob', X_broadcast_l125 NF fuel ob p s r i = some (s, ob') ∧ CInv ob' := by
  intro m
  induction m with
  | zero =>
    intro fuel ob i hf hi h0 h1 h2
    obtain ⟨n, rfl⟩ : ∃ n, fuel = n + 1 := ⟨fuel - 1, by omega⟩
    have hc : ¬ i < gI ob 0 := by rw [lt_i]; omega
    exact ⟨ob, by show X_broadcast_w125 NF _ ob p s r i = _; unfold X_broadcast_w125; rw [if_neg hc], hi⟩
  | succ m ih =>
    intro fuel ob i hf hi h0 h1 h2
    obtain ⟨n, rfl⟩ : ∃ n, fuel = n + 1 := ⟨fuel - 1, by omega⟩
    by_cases hc : i < gI ob 0
    · have hlt : i.toInt < (gI ob 0).toInt := lt_i.mp hc
      have hn := hi.2.1
      have ei := succ8 (i := i) (by omega)
      have ex := ix8 (p := r) (o := i) (by omega) (by omega)
      have q : ∀ A : Option (Int32 × Rec), chk 512 (r * 8 + i) A = A := fun A => chk_ok (by rw [t512]; omega)
      by_cases c : i = p
      · obtain ⟨ob', e, hi'⟩ := ih n (sA ob 5 (r * 8 + i) 0) (i + 1) (by omega) (hi.copy (by decide)) (by omega) (by show _ ≤ (gI ob 0).toInt; omega) (by show (gI ob 0).toInt - _ ≤ _; omega)
        refine ⟨ob', ?_, hi'⟩
        show X_broadcast_w125 NF _ ob p s r i = _
        unfold X_broadcast_w125; rw [if_pos hc, if_pos c, q]; exact e
      · obtain ⟨ob', e, hi'⟩ := ih n (sA ob 5 (r * 8 + i) 1) (i + 1) (by omega) (hi.copy (by decide)) (by omega) (by show _ ≤ (gI ob 0).toInt; omega) (by show (gI ob 0).toInt - _ ≤ _; omega)
        refine ⟨ob', ?_, hi'⟩
        show X_broadcast_w125 NF _ ob p s r i = _
        unfold X_broadcast_w125; rw [if_pos hc, if_neg c, q]; exact e
    · exact ⟨ob, by show X_broadcast_w125 NF _ ob p s r i = _; unfold X_broadcast_w125; rw [if_neg hc], hi⟩
theorem bc64 (NF : Nat) (hNF : 8 < NF) (p s r : Int32) (hp : 0 ≤ p.toInt ∧ p.toInt < 8) (hs : 1 ≤ s.toInt ∧ s.toInt ≤ 8) (hr : 0 ≤ r.toInt ∧ r.toInt < 64) : ∀ (m fuel : Nat) (ob : Rec) (i : Int32), m < fuel → CInv ob → 0 ≤ i.toInt → i.toInt ≤ (gI ob 0).toInt → (gI ob 0).toInt - i.toInt ≤ m → ∃ ob', X_broadcast_l64 NF fuel ob p s r i = some (s, ob') ∧ CInv ob' := by
  have fin : ∀ (ob : Rec), CInv ob → ∃ ob', (chk (512 : Int32) ((r * (8 : Int32)) + p) <| (X_deliverAt (sA ob 4 ((r * (8 : Int32)) + p) s) p p s).bind fun q5 => X_broadcast_l125 NF NF q5 p s r (0 : Int32)) = some (s, ob') ∧ CInv ob' := by
    intro ob hi
    have ex := ix8 (p := r) (o := p) (by omega) (by omega)
    rw [chk_ok (by rw [t512]; omega)]
    obtain ⟨o1, e1, s1⟩ := dl_ok (ob := sA ob 4 (r * 8 + p) s) hp hp hs
    have h1 : CInv o1 := s1.inv ((CSame.sA _ _ _ (by omega)).inv hi)
    rw [e1, Option.bind_some]
    have hn := h1.2.1
    have hn' := h1.1
    exact bc125 NF p s r hr 8 NF o1 0 hNF h1 (by decide) (by rw [t0]; omega) (by rw [t0]; omega)
  intro m
  induction m with
  | zero =>
    intro fuel ob i hf hi h0 h1 h2
    obtain ⟨n, rfl⟩ : ∃ n, fuel = n + 1 := ⟨fuel - 1, by omega⟩
    have hc : ¬ i < gI ob 0 := by rw [lt_i]; omega
    obtain ⟨ob', e, hi'⟩ := fin ob hi
    exact ⟨ob', by show X_broadcast_w64 NF _ ob p s r i = _; unfold X_broadcast_w64; rw [if_neg hc]; exact e, hi'⟩
  | succ m ih =>
    intro fuel ob i hf hi h0 h1 h2
    obtain ⟨n, rfl⟩ : ∃ n, fuel = n + 1 := ⟨fuel - 1, by omega⟩
    by_cases hc : i < gI ob 0
    · have hlt : i.toInt < (gI ob 0).toInt := lt_i.mp hc
      have hn := hi.2.1
      have ei := succ8 (i := i) (by omega)
      have ex := ix8 (p := r) (o := i) (by omega) (by omega)
      have ey := ix8 (p := p) (o := i) (by omega) (by omega)
      obtain ⟨ob', e, hi'⟩ := ih n (sA ob 4 (r * 8 + i) (gA ob 2 (p * 8 + i))) (i + 1) (by omega) ((CSame.sA _ _ _ (by omega)).inv hi) (by omega) (by show _ ≤ (gI ob 0).toInt; omega) (by show (gI ob 0).toInt - _ ≤ _; omega)
      refine ⟨ob', ?_, hi'⟩
      show X_broadcast_w64 NF _ ob p s r i = _
      unfold X_broadcast_w64; rw [if_pos hc, chk_ok (by rw [t64]; omega), chk_ok (by rw [t512]; omega)]; exact e
    · obtain ⟨ob', e, hi'⟩ := fin ob hi
      exact ⟨ob', by show X_broadcast_w64 NF _ ob p s r i = _; unfold X_broadcast_w64; rw [if_neg hc]; exact e, hi'⟩
/-- broadcast: refused with the object as it was, or a number of at least 1 -/
theorem bc_ok (NF : Nat) (hNF : 8 < NF) (ob : Rec) (p : Int32) (hi : CInv ob) : ∃ r ob', X_broadcast NF ob p = some (r, ob') ∧ CInv ob' ∧ ((r.toInt < 0 ∧ ob' = ob) ∨ r = gA ob 0 p + 1 ∧ 1 ≤ r.toInt) := by
  unfold X_broadcast
  by_cases v : 0 ≤ p.toInt ∧ p.toInt < (gI ob 0).toInt
  · have hn := hi.2.1
    rw [vp_in v, Option.bind_some, if_neg (by decide)]
    have q8 : ∀ A : Option (Int32 × Rec), chk 8 p A = A := fun A => chk_ok (by rw [t8]; omega)
    simp only [q8]
    by_cases c1 : gA ob 1 p = 0
    · rw [if_pos c1]
      by_cases c2 : gA ob 0 p < gI ob 1
      · rw [if_pos c2]
        have hs := hi.2.2.2.2.1 p
        have hcap := hi.2.2.2.1
        rw [lt_i] at c2
        have es := succ8 (i := gA ob 0 p) (by omega)
        have em := ixm (o := p) (s := gA ob 0 p + 1) (by omega) (by omega)
        have h1 : CInv (sA ob 0 p (gA ob 0 p + 1)) := by
          obtain ⟨i1, i2, i3, i4, i5, i6, i7⟩ := hi
          refine ⟨i1, i2, i3, i4, fun o => ?_, fun o => by rw [gA_sA, if_neg (by rintro ⟨e, -⟩; omega)]; exact i6 o, fun o => by rw [gA_sA, if_neg (by rintro ⟨e, -⟩; omega)]; exact i7 o⟩
          rw [gA_sA]
          split
          · rw [es]; show _ ∧ _ ≤ (gI ob 1).toInt; omega
          · exact i5 o
        unfold X_msgIndex
        rw [Option.bind_some]
        obtain ⟨ob', e, h2⟩ := bc64 NF hNF p (gA ob 0 p + 1) (p * 8 + (gA ob 0 p + 1) - 1) (by omega) (by omega) (by omega) 8 NF (sA ob 0 p (gA ob 0 p + 1)) 0 hNF h1 (by decide) (by rw [t0]; have := h1.1; omega) (by rw [t0]; have := h1.2.1; omega)
        exact ⟨_, ob', e, h2, Or.inr ⟨rfl, by omega⟩⟩
      · rw [if_neg c2]; exact ⟨_, ob, rfl, hi, Or.inl ⟨by decide, rfl⟩⟩
    · rw [if_neg c1]; exact ⟨_, ob, rfl, hi, Or.inl ⟨by decide, rfl⟩⟩
  · rw [vp_out v, Option.bind_some, if_pos rfl]; exact ⟨_, ob, rfl, hi, Or.inl ⟨by decide, rfl⟩⟩
-- USE: csa csx csb
theorem l125 (NF : Nat) (p s r : Int32) (hr : 0 ≤ r.toInt ∧ r.toInt < 64) : ∀ (m fuel : Nat) (ob : Rec) (i : Int32), m < fuel → (gI ob 0).toInt ≤ 8 → 0 ≤ i.toInt → i.toInt ≤ (gI ob 0).toInt → (gI ob 0).toInt - i.toInt ≤ m → ∃ ob', X_broadcast_l125 NF fuel ob p s r i = some (s, ob') ∧ ob'.1 = ob.1 ∧ (∀ k j, k ≠ 5 → gA ob' k j = gA ob k j) ∧ (∀ j : Int32, i.toInt ≤ j.toInt → j.toInt < (gI ob 0).toInt → gA ob' 5 (r * 8 + j) = if j = p then 0 else 1) ∧ (∀ x, (∀ j : Int32, i.toInt ≤ j.toInt → j.toInt < (gI ob 0).toInt → x ≠ r * 8 + j) → gA ob' 5 x = gA ob 5 x) := by
  intro m
  induction m with
  | zero =>
    intro fuel ob i hf hn h0 h1 h2
    obtain ⟨n, rfl⟩ : ∃ n, fuel = n + 1 := ⟨fuel - 1, by omega⟩
    have hc : ¬ i < gI ob 0 := by rw [lt_i]; omega
    exact ⟨ob, by show X_broadcast_w125 NF _ ob p s r i = _; unfold X_broadcast_w125; rw [if_neg hc], rfl, fun _ _ _ => rfl, fun j a b => by omega, fun _ _ => rfl⟩
  | succ m ih =>
    intro fuel ob i hf hn h0 h1 h2
    obtain ⟨n, rfl⟩ : ∃ n, fuel = n + 1 := ⟨fuel - 1, by omega⟩
    by_cases hc : i < gI ob 0
    · have hlt : i.toInt < (gI ob 0).toInt := lt_i.mp hc
      have ei := succ8 (i := i) (by omega)
      have ex := ix8 (p := r) (o := i) (by omega) (by omega)
      have q : ∀ A : Option (Int32 × Rec), chk 512 (r * 8 + i) A = A := fun A => chk_ok (by rw [t512]; omega)
      have main : ∀ w : Int32, (w = if i = p then 0 else 1) → X_broadcast_w125 NF (X_broadcast_l125 NF n) ob p s r i = X_broadcast_l125 NF n (sA ob 5 (r * 8 + i) w) p s r (i + 1) → ∃ ob', X_broadcast_l125 NF (n + 1) ob p s r i = some (s, ob') ∧ ob'.1 = ob.1 ∧ (∀ k j, k ≠ 5 → gA ob' k j = gA ob k j) ∧ (∀ j : Int32, i.toInt ≤ j.toInt → j.toInt < (gI ob 0).toInt → gA ob' 5 (r * 8 + j) = if j = p then 0 else 1) ∧ (∀ x, (∀ j : Int32, i.toInt ≤ j.toInt → j.toInt < (gI ob 0).toInt → x ≠ r * 8 + j) → gA ob' 5 x = gA ob 5 x) := by
        intro w hw e
        obtain ⟨ob', e', s1, s2, s3, s4⟩ := ih n (sA ob 5 (r * 8 + i) w) (i + 1) (by omega) hn (by omega) (by show _ ≤ (gI ob 0).toInt; omega) (by show (gI ob 0).toInt - _ ≤ _; omega)
        refine ⟨ob', ?_, s1, fun k j hk => ?_, fun j a b => ?_, fun x hx => ?_⟩
        · show X_broadcast_w125 NF _ ob p s r i = _; rw [e]; exact e'
        · rw [s2 k j hk, gA_sA, if_neg (fun h => hk h.1)]
        · by_cases u : j = i
          · rw [u, s4 (r * 8 + i) ?_, gA_sA, if_pos ⟨rfl, rfl⟩, hw]
            intro j' a' b' h
            have ey := ix8 (p := r) (o := j') (by omega) (by have : (gI (sA ob 5 (r * 8 + i) w) 0).toInt = (gI ob 0).toInt := rfl; omega)
            rw [← h, ex] at ey
            omega
          · have : j.toInt ≠ i.toInt := fun h => u (eq_i32.mpr h)
            exact s3 j (by omega) b
        · rw [s4 x (fun j a b => hx j (by omega) b), gA_sA, if_neg (fun h => hx i (by omega) hlt h.2)]
      by_cases c : i = p
      · exact main 0 (by rw [if_pos c]) (by unfold X_broadcast_w125; rw [if_pos hc, if_pos c, q])
      · exact main 1 (by rw [if_neg c]) (by unfold X_broadcast_w125; rw [if_pos hc, if_neg c, q])
    · exact ⟨ob, by show X_broadcast_w125 NF _ ob p s r i = _; unfold X_broadcast_w125; rw [if_neg hc], rfl, fun _ _ _ => rfl, fun j a b => absurd (lt_i.mpr (by omega)) hc, fun _ _ => rfl⟩
theorem l64 (NF : Nat) (p s r : Int32) (hp : 0 ≤ p.toInt ∧ p.toInt < 8) (hr : 0 ≤ r.toInt ∧ r.toInt < 64) : ∀ (m fuel : Nat) (ob : Rec) (i : Int32), m < fuel → (gI ob 0).toInt ≤ 8 → (∀ j, gA ob 2 j = 0) → (∀ j, gA ob 4 j = 0) → 0 ≤ i.toInt → i.toInt ≤ (gI ob 0).toInt → (gI ob 0).toInt - i.toInt ≤ m → ∃ ob', X_broadcast_l64 NF fuel ob p s r i = (chk (512 : Int32) ((r * (8 : Int32)) + p) <| (X_deliverAt (sA ob' 4 ((r * (8 : Int32)) + p) s) p p s).bind fun q5 => X_broadcast_l125 NF NF q5 p s r (0 : Int32)) ∧ ob'.1 = ob.1 ∧ (∀ k j, gA ob' k j = gA ob k j) := by
  intro m
  induction m with
  | zero =>
    intro fuel ob i hf hn z2 z4 h0 h1 h2
    obtain ⟨n, rfl⟩ : ∃ n, fuel = n + 1 := ⟨fuel - 1, by omega⟩
    have hc : ¬ i < gI ob 0 := by rw [lt_i]; omega
    exact ⟨ob, by show X_broadcast_w64 NF _ ob p s r i = _; unfold X_broadcast_w64; rw [if_neg hc], rfl, fun _ _ => rfl⟩
  | succ m ih =>
    intro fuel ob i hf hn z2 z4 h0 h1 h2
    obtain ⟨n, rfl⟩ : ∃ n, fuel = n + 1 := ⟨fuel - 1, by omega⟩
    by_cases hc : i < gI ob 0
    · have hlt : i.toInt < (gI ob 0).toInt := lt_i.mp hc
      have ei := succ8 (i := i) (by omega)
      have ex := ix8 (p := r) (o := i) (by omega) (by omega)
      have ey := ix8 (p := p) (o := i) (by omega) (by omega)
      have same : ∀ k j, gA (sA ob 4 (r * 8 + i) (gA ob 2 (p * 8 + i))) k j = gA ob k j := by
        intro k j; rw [gA_sA, z2]; split
        · rename_i h; rw [h.1, z4]
        · rfl
      obtain ⟨ob', e, s1, s2⟩ := ih n (sA ob 4 (r * 8 + i) (gA ob 2 (p * 8 + i))) (i + 1) (by omega) hn (fun j => by rw [same, z2]) (fun j => by rw [same, z4]) (by omega) (by show _ ≤ (gI ob 0).toInt; omega) (by show (gI ob 0).toInt - _ ≤ _; omega)
      refine ⟨ob', ?_, s1, fun k j => by rw [s2, same]⟩
      show X_broadcast_w64 NF _ ob p s r i = _
      unfold X_broadcast_w64; rw [if_pos hc, chk_ok (by rw [t64]; omega), chk_ok (by rw [t512]; omega)]; exact e
    · exact ⟨ob, by show X_broadcast_w64 NF _ ob p s r i = _; unfold X_broadcast_w64; rw [if_neg hc], rfl, fun _ _ => rfl⟩
theorem dl_e {ob : Rec} {p o s : Int32} (hp : 0 ≤ p.toInt ∧ p.toInt < 8) (ho : 0 ≤ o.toInt ∧ o.toInt < 8) (hs : 1 ≤ s.toInt ∧ s.toInt ≤ 8) (z8 : gA ob 8 p = 0) (z2 : gA ob 2 (p * 8 + o) = 0) : X_deliverAt ob p o s = some (sA (sA (sA (sA (sA ob 3 (p * 64 + o * 8 + s - 1) 2) 2 (p * 8 + o) 1) 7 (p * 64 + 0) (o * 16 + s)) 8 p 1) 6 (p * 64 + p * 8 + o) 1) := by
  have e1 := ixs (p := p) (o := o) (s := s) (by omega) (by omega) (by omega)
  have e2 := ix8 (p := p) (o := o) (by omega) (by omega)
  have e3 := ix3 (p := p) (q := p) (o := o) (by omega) (by omega) (by omega)
  have e4 := ix64 (p := p) (o := 0) (by omega) (by decide)
  have q512 : ∀ A : Option Rec, chk 512 (p * 64 + o * 8 + s - 1) A = A := fun A => chk_ok (by rw [t512]; omega)
  have q64 : ∀ A : Option Rec, chk 64 (p * 8 + o) A = A := fun A => chk_ok (by rw [t64]; omega)
  have q8 : ∀ A : Option Rec, chk 8 p A = A := fun A => chk_ok (by rw [t8]; omega)
  have qk : ∀ A : Option Rec, chk 512 (p * 64 + p * 8 + o) A = A := fun A => chk_ok (by rw [t512]; omega)
  have qq : ∀ A : Option Rec, chk 512 (p * 64 + 0) A = A := fun A => chk_ok (by rw [t0] at e4; rw [t512]; omega)
  have d1 : ¬ (0 : Int32) < 0 := by decide
  have d2 : (0 : Int32) < 64 := by decide
  unfold X_deliverAt X_stateIndex
  simp only [Option.bind_some, q512, q64, q8, z8, z2, if_neg d1, if_pos d2, qq]
  unfold X_deliverAt_b89 X_knownIndex
  simp only [Option.bind_some, q64, qk]
  simp [gA_sA]
/-- one broadcast on a fresh object of capacity 1 -/
theorem bcx (r : Rec) (n0 : 2 ≤ (gI r 0).toInt ∧ (gI r 0).toInt ≤ 8) (n1 : gI r 1 = 1) (hz : ∀ k i, gA r k i = 0) (p : Int32) (v : 0 ≤ p.toInt ∧ p.toInt < (gI r 0).toInt) : ∃ q, X_broadcast 20 r p = some (1, q) ∧ q.1 = r.1 ∧ (∀ j, gA q 0 j = if j = p then 1 else 0) ∧ (∀ j, gA q 1 j = 0) ∧ (∀ j, gA q 2 j = if j = p * 8 + p then 1 else 0) ∧ (∀ j, gA q 3 j = if j = p * 64 + p * 8 + 1 - 1 then 2 else 0) ∧ (∀ j, gA q 4 j = if j = (p * 8 + 1 - 1) * 8 + p then 1 else 0) ∧ (∀ j : Int32, 0 ≤ j.toInt → j.toInt < (gI r 0).toInt → gA q 5 ((p * 8 + 1 - 1) * 8 + j) = if j = p then 0 else 1) ∧ gA q 6 (p * 64 + p * 8 + p) = 1 ∧ gA q 7 (p * 64 + 0) = p * 16 + 1 ∧ gA q 8 p = 1 := by
  have i10 : ¬ (1 : Int32) = 0 := by decide
  have q8 : ∀ A : Option (Int32 × Rec), chk 8 p A = A := fun A => chk_ok (by rw [t8]; omega)
  have c2 : (0 : Int32) < 1 := by decide
  have z1 : (0 : Int32) + 1 = 1 := rfl
  have em := ixm (o := p) (s := 1) (by omega) (by decide)
  rw [t1] at em
  obtain ⟨o1, e1, s1, s2⟩ := l64 20 p 1 (p * 8 + 1 - 1) (by omega) (by omega) 8 20 (sA r 0 p 1) 0 (by omega) n0.2 (fun j => by rw [gA_sA, if_neg (fun h => absurd h.1 (by omega)), hz]) (fun j => by rw [gA_sA, if_neg (fun h => absurd h.1 (by omega)), hz]) (by decide) (by rw [t0]; show 0 ≤ (gI r 0).toInt; omega) (by rw [t0]; show (gI r 0).toInt - 0 ≤ 8; omega)
  have ec := ix8 (p := p * 8 + 1 - 1) (o := p) (by omega) (by omega)
  rw [chk_ok (by rw [t512]; omega)] at e1
  have w : ∀ k j, gA o1 k j = if k = 0 ∧ j = p then 1 else 0 := by intro k j; rw [s2, gA_sA, hz]
  rw [dl_e (ob := sA o1 4 ((p * 8 + 1 - 1) * 8 + p) 1) (by omega) (by omega) (by decide) (by rw [gA_sA, w]; simp) (by rw [gA_sA, w]; simp), Option.bind_some] at e1
  have hg : (gI (sA (sA (sA (sA (sA (sA o1 4 ((p * 8 + 1 - 1) * 8 + p) 1) 3 (p * 64 + p * 8 + 1 - 1) 2) 2 (p * 8 + p) 1) 7 (p * 64 + 0) (p * 16 + 1)) 8 p 1) 6 (p * 64 + p * 8 + p) 1) 0) = gI r 0 := by
    show gI o1 0 = _; unfold gI; rw [s1]; rfl
  obtain ⟨q, e2, u1, u2, u3, -⟩ := l125 20 p 1 (p * 8 + 1 - 1) (by omega) 8 20 _ 0 (by omega) (by rw [hg]; exact n0.2) (by decide) (by rw [hg, t0]; omega) (by rw [hg, t0]; omega)
  rw [e2] at e1
  refine ⟨q, ?_, u1.trans s1, ?_, ?_, ?_, ?_, ?_, ?_, ?_, ?_, ?_⟩
  · unfold X_broadcast
    simp only [vp_in v, Option.bind_some, if_neg i10, q8, hz, n1, if_pos c2, if_true, X_msgIndex, z1]
    exact e1
  · intro j; rw [u2 _ _ (by omega)]; simp only [gA_sA, w]; simp
  · intro j; rw [u2 _ _ (by omega)]; simp only [gA_sA, w]; simp
  · intro j; rw [u2 _ _ (by omega)]; simp only [gA_sA, w]; simp
  · intro j; rw [u2 _ _ (by omega)]; simp only [gA_sA, w]; simp
  · intro j; rw [u2 _ _ (by omega)]; simp only [gA_sA, w]; simp
  · intro j a b; exact u3 j (by rw [t0]; exact a) (by rw [hg]; exact b)
  · rw [u2 _ _ (by omega)]; simp only [gA_sA, w]; simp
  · rw [u2 _ _ (by omega)]; simp only [gA_sA, w]; simp
  · rw [u2 _ _ (by omega)]; simp only [gA_sA, w]; simp
theorem b216_ok (r q : Rec) (p x y i6 one S C T Sx D m3 : Int32) (h6 : (i6 = 1 ∧ one = 1 ∧ m3 = -3) ∨ (i6 = 0 ∧ one = -1 ∧ m3 = -1)) (hb : X_broadcast 20 r p = some (one, q)) (h1 : X_sent q p = some one) (h2 : X_stamp q p 1 y = some S) (h3 : X_copies q p 1 x = some C) (h4 : X_state q x p 1 = some T) (h5 : X_delivered q p p = some one) (h7 : X_deliveredAt q p 0 = some D) (h8 : X_known q p p p = some one) (h9 : X_sent q x = some Sx) (h10 : X_broadcast 20 q p = some (m3, q)) : L_law_b216 20 r p x y i6 one S C T Sx D = some 1 := by
  unfold L_law_b216 L_law_b238 L_law_b378
  rcases h6 with ⟨rfl, rfl, rfl⟩ | ⟨rfl, rfl, rfl⟩ <;> simp [hb, h1, h2, h3, h4, h5, h7, h8, h9, h10, bind2_some]
/-- the law's values down to the broadcast -/
theorem chain (r : Rec) (p x y i6 i7 i8 : Int32) (G : ∀ one S C T Sx D : Int32, one = (if i6 = 0 then -1 else 1) → S = (if i6 = 0 then -1 else if i8 = 0 then -1 else if y = p then 1 else 0) → C = (if i6 = 0 then -1 else if i7 = 0 then -1 else if x = p then 0 else 1) → T = (if i6 = 0 then -1 else if i7 = 0 then -1 else if x = p then 2 else 0) → Sx = (if i7 = 0 then -1 else if i6 = 0 then 0 else if x = p then 1 else 0) → D = (if i6 = 0 then -1 else p * 16 + 1) → L_law_b216 20 r p x y i6 one S C T Sx D = some 1) : L_law_b83 20 r p x y i6 i7 i8 = some 1 := by
  unfold L_law_b83 L_law_b95 L_law_b121 L_law_b147 L_law_b173 L_law_b199
  by_cases c6 : i6 = 0
  · simp only [if_pos c6] at G ⊢
    by_cases c7 : i7 = 0
    · simp only [if_pos c7] at G ⊢; exact G _ _ _ _ _ _ rfl rfl rfl rfl rfl rfl
    · simp only [if_neg c7] at G ⊢; exact G _ _ _ _ _ _ rfl rfl rfl rfl rfl rfl
  · simp only [if_neg c6] at G ⊢
    by_cases c7 : i7 = 0 <;> by_cases c8 : i8 = 0 <;> by_cases cx : x = p <;> by_cases cy : y = p <;> simp only [c7, c8, cx, cy, if_true, if_false] at G ⊢ <;> exact G _ _ _ _ _ _ rfl rfl rfl rfl rfl rfl
theorem own_b (r : Rec) (hi : CInv r) (n1 : gI r 1 = 1) (hz : ∀ k i, gA r k i = 0) (p x y i6 i7 i8 : Int32) (h6 : ((0 ≤ p.toInt ∧ p.toInt < (gI r 0).toInt) ∧ i6 = 1) ∨ (¬ (0 ≤ p.toInt ∧ p.toInt < (gI r 0).toInt) ∧ i6 = 0)) (h7 : ((0 ≤ x.toInt ∧ x.toInt < (gI r 0).toInt) ∧ i7 = 1) ∨ (¬ (0 ≤ x.toInt ∧ x.toInt < (gI r 0).toInt) ∧ i7 = 0)) (h8 : ((0 ≤ y.toInt ∧ y.toInt < (gI r 0).toInt) ∧ i8 = 1) ∨ (¬ (0 ≤ y.toInt ∧ y.toInt < (gI r 0).toInt) ∧ i8 = 0)) : L_law_b83 20 r p x y i6 i7 i8 = some 1 := by
  have i10 : ¬ (1 : Int32) = 0 := by decide
  refine chain r p x y i6 i7 i8 ?_
  rintro one S C T Sx D rfl rfl rfl rfl rfl rfl
  rcases h6 with ⟨vp, rfl⟩ | ⟨vp, rfl⟩
  · obtain ⟨q, e, s1, f0, f1, f2, f3, f4, f5, f6, f7, f8⟩ := bcx r ⟨hi.1, hi.2.1⟩ n1 hz p vp
    obtain ⟨r', ob', e', hq, -⟩ := bc_ok 20 (by omega) r p hi
    rw [e] at e'
    have : ob' = q := ((Prod.mk.inj (Option.some.inj e')).2).symm
    subst this
    have gi : ∀ k, gI ob' k = gI r k := fun k => by unfold gI; rw [s1]
    have hn := hi.2.1
    have vq : 0 ≤ p.toInt ∧ p.toInt < (gI ob' 0).toInt := by rw [gi]; exact vp
    have ex : ExP ob' p 1 := ⟨vq.1, vq.2, by decide, by rw [f0, if_pos rfl]; decide⟩
    have em := ixm (o := p) (s := 1) (by omega) (by decide)
    rw [t1] at em
    have q8 : ∀ A : Option Int32, chk 8 p A = A := fun A => chk_ok (by rw [t8]; omega)
    simp only [if_neg i10]
    refine b216_ok r ob' p x y 1 1 _ _ _ _ _ (-3) (Or.inl ⟨rfl, rfl, rfl⟩) e ?_ ?_ ?_ ?_ ?_ ?_ ?_ ?_ ?_
    · unfold X_sent; rw [vp_in vq, Option.bind_some, if_neg i10, q8, f0, if_pos rfl]
    · unfold X_stamp X_msgIndex
      rw [ex_in hq ex, Option.bind_some, if_neg i10]
      rcases h8 with ⟨vy, rfl⟩ | ⟨vy, rfl⟩
      · have ey := ix8 (p := p * 8 + 1 - 1) (o := y) (by omega) (by omega)
        have ep := ix8 (p := p * 8 + 1 - 1) (o := p) (by omega) (by omega)
        rw [vp_in (by rw [gi]; exact vy), Option.bind_some, if_neg i10, Option.bind_some, chk_ok (by rw [t512]; omega), f4, if_neg i10]
        by_cases c : y = p
        · rw [if_pos c, if_pos (by rw [c])]
        · rw [if_neg c, if_neg]; intro h; apply c; rw [eq_i32] at h ⊢; omega
      · rw [vp_out (by rw [gi]; exact vy), Option.bind_some, if_pos rfl, if_pos rfl]
    · unfold X_copies X_copyIndex
      rw [ex_in hq ex, Option.bind_some, if_neg i10]
      rcases h7 with ⟨vx, rfl⟩ | ⟨vx, rfl⟩
      · have ey := ix8 (p := p * 8 + 1 - 1) (o := x) (by omega) (by omega)
        rw [vp_in (by rw [gi]; exact vx), Option.bind_some, if_neg i10, Option.bind_some, chk_ok (by rw [t512]; omega), f5 x vx.1 vx.2, if_neg i10]
      · rw [vp_out (by rw [gi]; exact vx), Option.bind_some, if_pos rfl, if_pos rfl]
    · unfold X_state X_stateIndex
      rcases h7 with ⟨vx, rfl⟩ | ⟨vx, rfl⟩
      · have ey := ixs (p := x) (o := p) (s := 1) (by omega) (by omega) (by decide)
        have ep := ixs (p := p) (o := p) (s := 1) (by omega) (by omega) (by decide)
        rw [t1] at ey ep
        rw [vp_in (by rw [gi]; exact vx), Option.bind_some, if_neg i10, ex_in hq ex, Option.bind_some, if_neg i10, Option.bind_some, chk_ok (by rw [t512]; omega), f3, if_neg i10]
        by_cases c : x = p
        · rw [if_pos c, if_pos (by rw [c])]
        · rw [if_neg c, if_neg]; intro h; apply c; rw [eq_i32] at h ⊢; omega
      · rw [vp_out (by rw [gi]; exact vx), Option.bind_some, if_pos rfl, if_pos rfl]
    · have e2 := ix8 (p := p) (o := p) (by omega) (by omega)
      unfold X_delivered; rw [vp_in vq, Option.bind_some, if_neg i10, Option.bind_some, if_neg i10, chk_ok (by rw [t64]; omega), f2, if_pos rfl]
    · have e4 := ix64 (p := p) (o := 0) (by omega) (by decide)
      rw [t0] at e4
      unfold X_deliveredAt; rw [vp_in vq, Option.bind_some, if_neg i10, if_neg (by decide), q8, f8, if_pos (by decide), if_pos (by decide), chk_ok (by rw [t512]; omega), f7]
    · have e3 := ix3 (p := p) (q := p) (o := p) (by omega) (by omega) (by omega)
      unfold X_known X_knownIndex; rw [vp_in vq, Option.bind_some, if_neg i10, Option.bind_some, if_neg i10, Option.bind_some, if_neg i10, Option.bind_some, chk_ok (by rw [t512]; omega), f6]
    · unfold X_sent
      rcases h7 with ⟨vx, rfl⟩ | ⟨vx, rfl⟩
      · rw [vp_in (by rw [gi]; exact vx), Option.bind_some, if_neg i10, chk_ok (by rw [t8]; omega), f0, if_neg i10]
      · rw [vp_out (by rw [gi]; exact vx), Option.bind_some, if_pos rfl, if_pos rfl]
    · unfold X_broadcast
      rw [vp_in vq, Option.bind_some, if_neg i10, chk_ok (by rw [t8]; omega), f1, if_pos rfl, chk_ok (by rw [t8]; omega), f0, if_pos rfl, gi, n1, if_neg (by decide)]
  · have ex : ¬ ExP r p 1 := fun h => vp ⟨h.1, h.2.1⟩
    have hb : X_broadcast 20 r p = some (-1, r) := by unfold X_broadcast; rw [vp_out vp, Option.bind_some, if_pos rfl]
    have hn := hi.2.1
    refine b216_ok r r p x y 0 (-1) (-1) (-1) (-1) _ (-1) (-1) (Or.inr ⟨rfl, rfl, rfl⟩) hb ?_ ?_ ?_ ?_ ?_ ?_ ?_ ?_ hb
    · unfold X_sent; rw [vp_out vp, Option.bind_some, if_pos rfl]
    · unfold X_stamp; rw [ex_out hi ex, Option.bind_some, if_pos rfl]
    · unfold X_copies; rw [ex_out hi ex, Option.bind_some, if_pos rfl]
    · unfold X_state
      by_cases vx : 0 ≤ x.toInt ∧ x.toInt < (gI r 0).toInt
      · rw [vp_in vx, Option.bind_some, if_neg i10, ex_out hi ex, Option.bind_some, if_pos rfl]
      · rw [vp_out vx, Option.bind_some, if_pos rfl]
    · unfold X_delivered; rw [vp_out vp, Option.bind_some, if_pos rfl]
    · unfold X_deliveredAt; rw [vp_out vp, Option.bind_some, if_pos rfl]
    · unfold X_known; rw [vp_out vp, Option.bind_some, if_pos rfl]
    · unfold X_sent
      rcases h7 with ⟨vx, rfl⟩ | ⟨vx, rfl⟩
      · rw [vp_in vx, Option.bind_some, if_neg i10, chk_ok (by rw [t8]; omega), hz, if_neg i10, if_pos rfl]
      · rw [vp_out vx, Option.bind_some, if_pos rfl, if_pos rfl]
theorem own_init (a b : Int32) : ∃ r, X_init a b = some r ∧ CInv r ∧ (∀ k i, gA r k i = 0) ∧ gI r 0 = (if a < 2 then 2 else if 8 < a then 8 else a) ∧ gI r 1 = (if b < 1 then 1 else if 8 < b then 8 else b) := by
  have e : X_init a b = some (sI (sI zrec 0 (if a < 2 then 2 else if 8 < a then 8 else a)) 1 (if b < 1 then 1 else if 8 < b then 8 else b)) := by
    unfold X_init X_init_b90 X_init_b99 X_init_b116
    have d1 : ¬ (8 : Int32) < 2 := by decide
    have d2 : ¬ (8 : Int32) < 1 := by decide
    by_cases h1 : a < 2 <;> by_cases h2 : 8 < a <;> by_cases h3 : b < 1 <;> by_cases h4 : 8 < b <;> simp only [h1, h2, h3, h4, d1, d2, if_true, if_false]
  refine ⟨_, e, ⟨?_, ?_, ?_, ?_, fun _ => ?_, fun _ => ?_, fun _ => Or.inl rfl⟩, fun _ _ => rfl, rfl, rfl⟩
  · show 2 ≤ (if a < 2 then 2 else if 8 < a then 8 else a : Int32).toInt
    split
    · decide
    · rename_i h; rw [lt_i, t2] at h; split
      · decide
      · omega
  · show (if a < 2 then 2 else if 8 < a then 8 else a : Int32).toInt ≤ 8
    split
    · decide
    · split
      · decide
      · rename_i h; rw [lt_i, t8] at h; omega
  · show 1 ≤ (if b < 1 then 1 else if 8 < b then 8 else b : Int32).toInt
    split
    · decide
    · rename_i h; rw [lt_i, t1] at h; split
      · decide
      · omega
  · show (if b < 1 then 1 else if 8 < b then 8 else b : Int32).toInt ≤ 8
    split
    · decide
    · split
      · decide
      · rename_i h; rw [lt_i, t8] at h; omega
  · show 0 ≤ (0 : Int32).toInt ∧ (0 : Int32).toInt ≤ (if b < 1 then 1 else if 8 < b then 8 else b : Int32).toInt
    refine ⟨by decide, ?_⟩
    split
    · decide
    · rename_i h; rw [lt_i, t1] at h; rw [t0]; split
      · decide
      · omega
  · show 0 ≤ (0 : Int32).toInt ∧ (0 : Int32).toInt ≤ 3; decide
theorem own_l (r : Rec) (hi : CInv r) (n1 : gI r 1 = 1) (hz : ∀ k i, gA r k i = 0) (p x y : Int32) : L_law_b32 20 r p x y (gI r 0) = some 1 := by
  have B : ∀ (i n : Int32) (f : Int32 → Option Int32), (if i < 0 then f 0 else if i < n then f 1 else f 0) = if 0 ≤ i.toInt ∧ i.toInt < n.toInt then f 1 else f 0 := by
    intro i n f
    by_cases c : i < 0
    · rw [if_pos c, if_neg (fun h => by rw [lt_i, t0] at c; omega)]
    · by_cases c' : i < n
      · rw [if_neg c, if_pos c', if_pos ⟨by rw [lt_i, t0] at c; omega, lt_i.mp c'⟩]
      · rw [if_neg c, if_neg c', if_neg (fun h => c' (lt_i.mpr h.2))]
  have K : ∀ (i : Int32) (f : Int32 → Option Int32), (∀ t : Int32, ((0 ≤ i.toInt ∧ i.toInt < (gI r 0).toInt) ∧ t = 1) ∨ (¬ (0 ≤ i.toInt ∧ i.toInt < (gI r 0).toInt) ∧ t = 0) → f t = some 1) → (if i < 0 then f 0 else if i < gI r 0 then f 1 else f 0) = some 1 := by
    intro i f h
    rw [B i (gI r 0) f]
    by_cases c : 0 ≤ i.toInt ∧ i.toInt < (gI r 0).toInt
    · rw [if_pos c]; exact h 1 (Or.inl ⟨c, rfl⟩)
    · rw [if_neg c]; exact h 0 (Or.inr ⟨c, rfl⟩)
  unfold L_law_b32
  refine K p (fun t => L_law_b49 20 r p x y (gI r 0) t) (fun i6 h6 => ?_)
  show L_law_b49 20 r p x y (gI r 0) i6 = some 1
  unfold L_law_b49
  refine K x (fun t => L_law_b66 20 r p x y (gI r 0) i6 t) (fun i7 h7 => ?_)
  show L_law_b66 20 r p x y (gI r 0) i6 i7 = some 1
  unfold L_law_b66
  exact K y (fun t => L_law_b83 20 r p x y i6 i7 t) (fun i8 h8 => own_b r hi n1 hz p x y i6 i7 i8 h6 h7 h8)
theorem owed : ∀ i0 i1 i2 i3 : Int32, ∃ NF : Nat, L_law NF i0 i1 i2 i3 = some 1 := by
  intro i0 i1 i2 i3
  refine ⟨20, ?_⟩
  obtain ⟨r, e, hi, hz, hn, h1⟩ := own_init i0 1
  have h := own_l r hi (by rw [h1]; decide) hz i1 i2 i3
  unfold L_law
  rw [e, Option.bind_some]
  by_cases h1 : i0 < 2
  · rw [if_pos h1] at hn ⊢; rw [hn] at h; exact h
  · by_cases h2 : 8 < i0
    · rw [if_neg h1, if_pos h2] at hn ⊢; rw [hn] at h; exact h
    · rw [if_neg h1, if_neg h2] at hn ⊢; rw [hn] at h; exact h
-- owed : ∀ i0 i1 i2 i3 : Int32, ∃ NF : Nat, L_law NF i0 i1 i2 i3 = some 1
--COMES--
set_option maxRecDepth 65536 in
set_option maxHeartbeats 4000000 in
theorem comes_1 {Post : Tables → Env → Array Value → State → Outcome → State → Prop} (hpost : ∀ tb e args s v u, (limb_1_1.after args s (.returned v) u = true ∧ limb_1_2.after args s (.returned v) u = true ∧ True) → FrameEnd s (.returned v) u (Jvm.fieldLocs frame_1_writes args s ++ Jvm.arrayLocs frame_1_arrays args s ++ Jvm.staticLocs frame_1_statics s) 32 5440 → Post tb e args s (.returned v) u) :
    ArmFor flags0 classFile x code maxLocals ret World_1 tables_1 room_1 Calls_1 rest_1 Pre_1 Post := by
  intro l hfl _ _ p e ha hc hk s m args below hf hA hF happ hP
  obtain ⟨hcalls, hrest, hpre⟩ := hP
  obtain ⟨-, -, -, hnamed, -, -, -, hat⟩ := (Spec.applies_iff hf).mp happ
  obtain ⟨hg, hn⟩ := and_e (Cond.before_iff.mp (show (Jvm.Cond.and given_1 narrow_1).before args s = true from hpre))
  obtain ⟨hcnt, hg⟩ := and_e hg
  obtain ⟨w0, w1, w2, w3, rfl⟩ : ∃ w0 w1 w2 w3 : Value, args = #[w0, w1, w2, w3] := by
    have hs : args.size = 4 := by simpa [Cond.value, given_1] using hcnt
    obtain ⟨L⟩ := args
    match L, hs with
    | [w0, w1, w2, w3], _ => exact ⟨w0, w1, w2, w3, rfl⟩
  have hw := fun d (hd : d ∈ tables_1) => atoms_spec (ws := Jvm.Cond.code x code maxLocals ret :: tables_1) hat d (List.mem_cons_of_mem _ hd)
  have hfit : Fit s := fun {y c} hc i hi => by
    obtain ⟨ha, rfl⟩ := Array.getElem?_eq_some_iff.mp hc
    have q := List.all_eq_true.mp ((Array.all_eq_true_iff_forall_mem.mp hF) _ (Array.getElem_mem ha)) i (List.mem_range.mpr hi)
    simpa [Array.getElem?_eq_getElem hi] using q
  obtain ⟨h0, hg⟩ := and_e hg
  obtain ⟨i0, e0⟩ := is_v h0
  obtain rfl : w0 = (.int i0) := Option.some.inj e0
  obtain ⟨h1, hg⟩ := and_e hg
  obtain ⟨i1, e1⟩ := is_v h1
  obtain rfl : w1 = (.int i1) := Option.some.inj e1
  obtain ⟨h2, hg⟩ := and_e hg
  obtain ⟨i2, e2⟩ := is_v h2
  obtain rfl : w2 = (.int i2) := Option.some.inj e2
  have h3 := hg
  obtain ⟨i3, e3⟩ := is_v h3
  obtain rfl : w3 = (.int i3) := Option.some.inj e3
  obtain ⟨NF, hlaw⟩ := owed i0 i1 i2 i3
  have hp := L_law_pay (C := (l, s, s.heap.size, #[.int i0, .int i1, .int i2, .int i3])) hlaw hw s.heap (Rep.start s) tables_1
  obtain ⟨n, o, h1, h2, h3, v, L, rfl, ⟨N, G', -, rfl⟩, hq⟩ := hp p e ha hc hk s m _ below hf ((Spec.applies_iff_loose hf).mp happ).1 ⟨rfl, State.Warmed39.refl s, rfl⟩ trivial
  refine ⟨n, _, h1, h2, h3, hpost _ _ _ _ _ _ ⟨Cond.after_iff.mpr rfl, Cond.after_iff.mpr (eq_i res_at (Term.int_eval (1)) rfl), trivial⟩ ⟨hq.1, hq.2.1, (hq.2.2.sift fun y hy => Or.inr (N y hy)).mono (by decide) (by decide)⟩⟩
theorem main_1_1 : Claimed_1_1 := comes_1 fun _ _ _ _ _ _ h hF => ⟨h.1, hF⟩
theorem main_1_2 : Claimed_1_2 := comes_1 fun _ _ _ _ _ _ h hF => ⟨h.2.1, hF⟩
end Jvm.Pilot.@@N@@
namespace Jvm.Pilot.@@N@@
open Jvm Jvm.ClassFile Sem Op Lib Jvm.Free Jvm.Stand Jvm.Pilot.@@N@@.Jvm.D
/-! MADE BY PROGRAM (witnessworld.py) out of the Statement's table words and the real class files: 11 classes; the members and pool entries that the words name. The judged class is class 1, her method 1. -/
namespace start1
open Jvm.ClassFile
def u (s : String) : CpInfo := .utf8 (stringToUtf16 s)
/-- a pool by its gaps: so many unusable entries, then the entry; so many at the end -/
def gap : Nat → List CpInfo → List CpInfo
  | 0, r => r
  | n + 1, r => .unusable :: gap n r
def poolList (es : List (Nat × CpInfo)) (last : Nat) : List CpInfo := es.foldr (fun e r => gap e.1 (e.2 :: r)) (gap last [])
def pool (es : List (Nat × CpInfo)) (last : Nat) : Array CpInfo := ⟨poolList es last⟩
def fileOf (pool : Array CpInfo) (this : Nat) (attrs : Array Attribute := #[]) (ms : Array MethodInfo := #[]) (fl : Nat := 33) (sup : Nat := 0) (ifs : Array Nat := #[]) (fds : Array FieldInfo := #[]) : ClassFile where
  minorVersion := 0
  majorVersion := 65
  constantPool := pool
  accessFlags := fl
  thisClass := this
  superClass := sup
  interfaces := ifs
  fields := fds
  methods := ms
  attributes := attrs
def plain (name : String) (sup : Option ClassId) : Class where
  name := name
  kind := .ordinary
  loader := none
  accessFlags := 33
  super := sup
  interfaces := #[]
  cf := none
  fields := #[]
  methods := #[]
  instanceTypes := #[]
  staticTypes := #[]
  resolved := #[]
  callSites := []
  init := .initialized
  statics := none
  mirror := none

def pool0 : Array CpInfo := pool [(5, u "<init>"), (0, u "()V"), (1, .class_ 10), (1, u "java/lang/Object")] 113

def k0c0 : Code := { maxStack := 0, maxLocals := 1, code := object_method_1_code, exceptionTable := #[], attributes := #[] }
def k0m0 : Method := { name := "<init>", desc := "()V", sig := { parameters := [], returnType := none }, accessFlags := 1, code := some k0c0 }
/-- java/lang/Object -/
def k0 : Class := { plain "java/lang/Object" none with
  accessFlags := 33
  interfaces := #[]
  cf := some (fileOf pool0 8 #[] #[{ accessFlags := 1, nameIndex := 5, descriptorIndex := 6, attributes := #[] }] 33 0 #[] #[])
  fields := #[]
  methods := #[k0m0]
  instanceTypes := #[]
  staticTypes := #[]
  resolved := Array.replicate 124 none
  statics := none }

def pool1 : Array CpInfo := pool [(2, .class_ 4), (1, u "java/lang/Object"), (0, u "<init>"), (0, u "()V"), (0, .class_ 8), (0, u "CausalStable"), (0, .methodref 7 10), (0, .nameAndType 5 11), (0, u "(II)V"), (0, .methodref 7 13), (0, .nameAndType 14 15), (0, u "broadcast"), (0, u "(I)I"), (0, .methodref 7 17), (0, .nameAndType 18 15), (0, u "sent"), (0, .methodref 7 20), (0, .nameAndType 21 22), (0, u "stamp"), (0, u "(III)I"), (0, .methodref 7 24), (0, .nameAndType 25 22), (0, u "copies"), (0, .methodref 7 27), (0, .nameAndType 28 22), (0, u "state"), (0, .methodref 7 30), (0, .nameAndType 31 32), (0, u "delivered"), (0, u "(II)I"), (0, .methodref 7 34), (0, .nameAndType 35 32), (0, u "deliveredAt"), (0, .methodref 7 37), (0, .nameAndType 38 22), (0, u "known"), (0, .class_ 40), (0, u "CausalStableL2"), (2, u "law"), (0, u "(IIII)Z")] 3

def k1m0 : Method := { name := "<init>", desc := "()V", sig := { parameters := [], returnType := none }, accessFlags := 1, code := none }
def k1c1 : Code := { maxStack := 4, maxLocals := 17, code := code, exceptionTable := #[], attributes := #[] }
def k1m1 : Method := { name := "law", desc := "(IIII)Z", sig := { parameters := [.int, .int, .int, .int], returnType := some .boolean }, accessFlags := 9, code := some k1c1 }
/-- CausalStableL2 -/
def k1 : Class := { plain "CausalStableL2" (some 0) with
  accessFlags := 49
  interfaces := #[]
  cf := some (fileOf pool1 39 #[] #[{ accessFlags := 1, nameIndex := 5, descriptorIndex := 6, attributes := #[] }, { accessFlags := 9, nameIndex := 43, descriptorIndex := 44, attributes := #[] }] 49 2 #[] #[])
  fields := #[]
  methods := #[k1m0, k1m1]
  instanceTypes := #[]
  staticTypes := #[]
  resolved := Array.replicate 48 none
  statics := none }

def pool2 : Array CpInfo := pool [(1, .methodref 2 3), (0, .class_ 4), (0, .nameAndType 5 6), (0, u "java/lang/Object"), (0, u "<init>"), (0, u "()V"), (0, .fieldref 8 9), (0, .class_ 10), (0, .nameAndType 11 12), (0, u "CausalStable"), (0, u "sentCount"), (0, u "[I"), (0, .fieldref 8 14), (0, .nameAndType 15 16), (0, u "crashedFlag"), (0, u "[Z"), (0, .fieldref 8 18), (0, .nameAndType 19 12), (0, u "del"), (0, .fieldref 8 21), (0, .nameAndType 22 12), (0, u "msgState"), (0, .fieldref 8 24), (0, .nameAndType 25 12), (0, u "stampArr"), (0, .fieldref 8 27), (0, .nameAndType 28 12), (0, u "copyArr"), (0, .fieldref 8 30), (0, .nameAndType 31 12), (0, u "known"), (0, .fieldref 8 33), (0, .nameAndType 34 12), (0, u "list"), (0, .fieldref 8 36), (0, .nameAndType 37 12), (0, u "listLen"), (0, .fieldref 8 39), (0, .nameAndType 40 41), (0, u "n"), (0, u "I"), (0, .fieldref 8 43), (0, .nameAndType 44 41), (0, u "cap"), (0, .methodref 8 46), (0, .nameAndType 47 48), (0, u "stateIndex"), (0, u "(III)I"), (0, .methodref 8 50), (0, .nameAndType 51 48), (0, u "knownIndex"), (0, .methodref 8 53), (0, .nameAndType 54 55), (0, u "exists"), (0, u "(II)Z"), (0, .methodref 8 57), (0, .nameAndType 58 59), (0, u "msgIndex"), (0, u "(II)I"), (4, .methodref 8 65), (0, .nameAndType 66 67), (0, u "deliverAt"), (0, u "(III)V"), (0, .methodref 8 69), (0, .nameAndType 70 71), (0, u "validProc"), (0, u "(I)Z"), (0, .methodref 8 73), (0, .nameAndType 74 48), (0, u "copyIndex"), (3, u "(I)I"), (6, u "OK"), (2, u "BAD"), (1, u "CRASHED"), (1, u "FULL"), (1, u "NO_COPY"), (1, u "DUPLICATE"), (1, u "NOT_LOGGED"), (1, u "LAST"), (1, u "NONE"), (0, u "HELD"), (1, u "LOGGED"), (1, u "PRUNED"), (1, u "MAX_COPIES"), (0, u "(II)V"), (3, u "broadcast"), (9, u "sent"), (0, u "stamp"), (0, u "copies"), (0, u "state"), (0, u "delivered"), (0, u "deliveredAt")] 3

def k2c0 : Code := { maxStack := 2, maxLocals := 5, code := prog_1_method_1_code, exceptionTable := #[], attributes := #[] }
def k2m0 : Method := { name := "<init>", desc := "(II)V", sig := { parameters := [.int, .int], returnType := none }, accessFlags := 1, code := some k2c0 }
def k2c1 : Code := { maxStack := 2, maxLocals := 2, code := prog_1_method_2_code, exceptionTable := #[], attributes := #[] }
def k2m1 : Method := { name := "validProc", desc := "(I)Z", sig := { parameters := [.int], returnType := some .boolean }, accessFlags := 2, code := some k2c1 }
def k2c2 : Code := { maxStack := 3, maxLocals := 3, code := prog_1_method_3_code, exceptionTable := #[], attributes := #[] }
def k2m2 : Method := { name := "exists", desc := "(II)Z", sig := { parameters := [.int, .int], returnType := some .boolean }, accessFlags := 2, code := some k2c2 }
def k2c3 : Code := { maxStack := 2, maxLocals := 3, code := prog_1_method_4_code, exceptionTable := #[], attributes := #[] }
def k2m3 : Method := { name := "msgIndex", desc := "(II)I", sig := { parameters := [.int, .int], returnType := some .int }, accessFlags := 2, code := some k2c3 }
def k2c4 : Code := { maxStack := 3, maxLocals := 4, code := prog_1_method_5_code, exceptionTable := #[], attributes := #[] }
def k2m4 : Method := { name := "stateIndex", desc := "(III)I", sig := { parameters := [.int, .int, .int], returnType := some .int }, accessFlags := 2, code := some k2c4 }
def k2c5 : Code := { maxStack := 2, maxLocals := 4, code := prog_1_method_6_code, exceptionTable := #[], attributes := #[] }
def k2m5 : Method := { name := "copyIndex", desc := "(III)I", sig := { parameters := [.int, .int, .int], returnType := some .int }, accessFlags := 2, code := some k2c5 }
def k2c6 : Code := { maxStack := 3, maxLocals := 4, code := prog_1_method_7_code, exceptionTable := #[], attributes := #[] }
def k2m6 : Method := { name := "knownIndex", desc := "(III)I", sig := { parameters := [.int, .int, .int], returnType := some .int }, accessFlags := 2, code := some k2c6 }
def k2c7 : Code := { maxStack := 5, maxLocals := 7, code := prog_1_method_8_code, exceptionTable := #[], attributes := #[] }
def k2m7 : Method := { name := "deliverAt", desc := "(III)V", sig := { parameters := [.int, .int, .int], returnType := none }, accessFlags := 2, code := some k2c7 }
def k2c8 : Code := { maxStack := 5, maxLocals := 5, code := prog_1_method_13_code, exceptionTable := #[], attributes := #[] }
def k2m8 : Method := { name := "broadcast", desc := "(I)I", sig := { parameters := [.int], returnType := some .int }, accessFlags := 1, code := some k2c8 }
def k2c9 : Code := { maxStack := 2, maxLocals := 2, code := prog_1_method_21_code, exceptionTable := #[], attributes := #[] }
def k2m9 : Method := { name := "sent", desc := "(I)I", sig := { parameters := [.int], returnType := some .int }, accessFlags := 1, code := some k2c9 }
def k2c10 : Code := { maxStack := 3, maxLocals := 5, code := prog_1_method_22_code, exceptionTable := #[], attributes := #[] }
def k2m10 : Method := { name := "stamp", desc := "(III)I", sig := { parameters := [.int, .int, .int], returnType := some .int }, accessFlags := 1, code := some k2c10 }
def k2c11 : Code := { maxStack := 4, maxLocals := 5, code := prog_1_method_23_code, exceptionTable := #[], attributes := #[] }
def k2m11 : Method := { name := "copies", desc := "(III)I", sig := { parameters := [.int, .int, .int], returnType := some .int }, accessFlags := 1, code := some k2c11 }
def k2c12 : Code := { maxStack := 4, maxLocals := 5, code := prog_1_method_24_code, exceptionTable := #[], attributes := #[] }
def k2m12 : Method := { name := "state", desc := "(III)I", sig := { parameters := [.int, .int, .int], returnType := some .int }, accessFlags := 1, code := some k2c12 }
def k2c13 : Code := { maxStack := 3, maxLocals := 3, code := prog_1_method_25_code, exceptionTable := #[], attributes := #[] }
def k2m13 : Method := { name := "delivered", desc := "(II)I", sig := { parameters := [.int, .int], returnType := some .int }, accessFlags := 1, code := some k2c13 }
def k2c14 : Code := { maxStack := 3, maxLocals := 3, code := prog_1_method_26_code, exceptionTable := #[], attributes := #[] }
def k2m14 : Method := { name := "deliveredAt", desc := "(II)I", sig := { parameters := [.int, .int], returnType := some .int }, accessFlags := 1, code := some k2c14 }
def k2c15 : Code := { maxStack := 4, maxLocals := 5, code := prog_1_method_27_code, exceptionTable := #[], attributes := #[] }
def k2m15 : Method := { name := "known", desc := "(III)I", sig := { parameters := [.int, .int, .int], returnType := some .int }, accessFlags := 1, code := some k2c15 }
/-- CausalStable -/
def k2 : Class := { plain "CausalStable" (some 0) with
  accessFlags := 49
  interfaces := #[]
  cf := some (fileOf pool2 8 #[] #[{ accessFlags := 1, nameIndex := 5, descriptorIndex := 110, attributes := #[] }, { accessFlags := 2, nameIndex := 70, descriptorIndex := 71, attributes := #[] }, { accessFlags := 2, nameIndex := 54, descriptorIndex := 55, attributes := #[] }, { accessFlags := 2, nameIndex := 58, descriptorIndex := 59, attributes := #[] }, { accessFlags := 2, nameIndex := 47, descriptorIndex := 48, attributes := #[] }, { accessFlags := 2, nameIndex := 74, descriptorIndex := 48, attributes := #[] }, { accessFlags := 2, nameIndex := 51, descriptorIndex := 48, attributes := #[] }, { accessFlags := 2, nameIndex := 66, descriptorIndex := 67, attributes := #[] }, { accessFlags := 1, nameIndex := 114, descriptorIndex := 78, attributes := #[] }, { accessFlags := 1, nameIndex := 124, descriptorIndex := 78, attributes := #[] }, { accessFlags := 1, nameIndex := 125, descriptorIndex := 48, attributes := #[] }, { accessFlags := 1, nameIndex := 126, descriptorIndex := 48, attributes := #[] }, { accessFlags := 1, nameIndex := 127, descriptorIndex := 48, attributes := #[] }, { accessFlags := 1, nameIndex := 128, descriptorIndex := 59, attributes := #[] }, { accessFlags := 1, nameIndex := 129, descriptorIndex := 59, attributes := #[] }, { accessFlags := 1, nameIndex := 31, descriptorIndex := 48, attributes := #[] }] 49 2 #[] #[{ accessFlags := 25, nameIndex := 85, descriptorIndex := 41, attributes := #[] }, { accessFlags := 25, nameIndex := 88, descriptorIndex := 41, attributes := #[] }, { accessFlags := 25, nameIndex := 90, descriptorIndex := 41, attributes := #[] }, { accessFlags := 25, nameIndex := 92, descriptorIndex := 41, attributes := #[] }, { accessFlags := 25, nameIndex := 94, descriptorIndex := 41, attributes := #[] }, { accessFlags := 25, nameIndex := 96, descriptorIndex := 41, attributes := #[] }, { accessFlags := 25, nameIndex := 98, descriptorIndex := 41, attributes := #[] }, { accessFlags := 25, nameIndex := 100, descriptorIndex := 41, attributes := #[] }, { accessFlags := 25, nameIndex := 102, descriptorIndex := 41, attributes := #[] }, { accessFlags := 25, nameIndex := 103, descriptorIndex := 41, attributes := #[] }, { accessFlags := 25, nameIndex := 105, descriptorIndex := 41, attributes := #[] }, { accessFlags := 25, nameIndex := 107, descriptorIndex := 41, attributes := #[] }, { accessFlags := 25, nameIndex := 109, descriptorIndex := 41, attributes := #[] }, { accessFlags := 2, nameIndex := 40, descriptorIndex := 41, attributes := #[] }, { accessFlags := 2, nameIndex := 44, descriptorIndex := 41, attributes := #[] }, { accessFlags := 2, nameIndex := 11, descriptorIndex := 12, attributes := #[] }, { accessFlags := 2, nameIndex := 15, descriptorIndex := 16, attributes := #[] }, { accessFlags := 2, nameIndex := 19, descriptorIndex := 12, attributes := #[] }, { accessFlags := 2, nameIndex := 22, descriptorIndex := 12, attributes := #[] }, { accessFlags := 2, nameIndex := 25, descriptorIndex := 12, attributes := #[] }, { accessFlags := 2, nameIndex := 28, descriptorIndex := 12, attributes := #[] }, { accessFlags := 2, nameIndex := 31, descriptorIndex := 12, attributes := #[] }, { accessFlags := 2, nameIndex := 34, descriptorIndex := 12, attributes := #[] }, { accessFlags := 2, nameIndex := 37, descriptorIndex := 12, attributes := #[] }])
  fields := #[{ name := "OK", type := .int, accessFlags := 25, slot := 0, constantValue := 0 }, { name := "BAD", type := .int, accessFlags := 25, slot := 1, constantValue := 0 }, { name := "CRASHED", type := .int, accessFlags := 25, slot := 2, constantValue := 0 }, { name := "FULL", type := .int, accessFlags := 25, slot := 3, constantValue := 0 }, { name := "NO_COPY", type := .int, accessFlags := 25, slot := 4, constantValue := 0 }, { name := "DUPLICATE", type := .int, accessFlags := 25, slot := 5, constantValue := 0 }, { name := "NOT_LOGGED", type := .int, accessFlags := 25, slot := 6, constantValue := 0 }, { name := "LAST", type := .int, accessFlags := 25, slot := 7, constantValue := 0 }, { name := "NONE", type := .int, accessFlags := 25, slot := 8, constantValue := 0 }, { name := "HELD", type := .int, accessFlags := 25, slot := 9, constantValue := 0 }, { name := "LOGGED", type := .int, accessFlags := 25, slot := 10, constantValue := 0 }, { name := "PRUNED", type := .int, accessFlags := 25, slot := 11, constantValue := 0 }, { name := "MAX_COPIES", type := .int, accessFlags := 25, slot := 12, constantValue := 0 }, { name := "n", type := .int, accessFlags := 2, slot := 0, constantValue := 0 }, { name := "cap", type := .int, accessFlags := 2, slot := 1, constantValue := 0 }, { name := "sentCount", type := (.array .int), accessFlags := 2, slot := 2, constantValue := 0 }, { name := "crashedFlag", type := (.array .boolean), accessFlags := 2, slot := 3, constantValue := 0 }, { name := "del", type := (.array .int), accessFlags := 2, slot := 4, constantValue := 0 }, { name := "msgState", type := (.array .int), accessFlags := 2, slot := 5, constantValue := 0 }, { name := "stampArr", type := (.array .int), accessFlags := 2, slot := 6, constantValue := 0 }, { name := "copyArr", type := (.array .int), accessFlags := 2, slot := 7, constantValue := 0 }, { name := "known", type := (.array .int), accessFlags := 2, slot := 8, constantValue := 0 }, { name := "list", type := (.array .int), accessFlags := 2, slot := 9, constantValue := 0 }, { name := "listLen", type := (.array .int), accessFlags := 2, slot := 10, constantValue := 0 }]
  methods := #[k2m0, k2m1, k2m2, k2m3, k2m4, k2m5, k2m6, k2m7, k2m8, k2m9, k2m10, k2m11, k2m12, k2m13, k2m14, k2m15]
  instanceTypes := #[.int, .int, (.array .int), (.array .boolean), (.array .int), (.array .int), (.array .int), (.array .int), (.array .int), (.array .int), (.array .int)]
  staticTypes := #[.int, .int, .int, .int, .int, .int, .int, .int, .int, .int, .int, .int, .int]
  resolved := Array.replicate 133 none
  statics := none }

def pool3 : Array CpInfo := pool [(1, u "java/lang/Cloneable"), (0, .class_ 1), (0, u "java/lang/Object"), (0, .class_ 3)] 3

/-- java/lang/Cloneable -/
def k3 : Class := { plain "java/lang/Cloneable" (some 0) with
  accessFlags := 1537
  interfaces := #[]
  cf := some (fileOf pool3 2 #[] #[] 1537 4 #[] #[])
  fields := #[]
  methods := #[]
  instanceTypes := #[]
  staticTypes := #[]
  resolved := Array.replicate 8 none
  statics := none }

def pool4 : Array CpInfo := pool [(1, u "java/io/Serializable"), (0, .class_ 1), (0, u "java/lang/Object"), (0, .class_ 3)] 3

/-- java/io/Serializable -/
def k4 : Class := { plain "java/io/Serializable" (some 0) with
  accessFlags := 1537
  interfaces := #[]
  cf := some (fileOf pool4 2 #[] #[] 1537 4 #[] #[])
  fields := #[]
  methods := #[]
  instanceTypes := #[]
  staticTypes := #[]
  resolved := Array.replicate 8 none
  statics := none }

/-- the primitive boolean -/
def k5 : Class := { plain "boolean" none with kind := .primitive 'Z', accessFlags := 0x411 }
/-- [Z -/
def k6 : Class := { plain "[Z" (some 0) with kind := .array 5 .boolean, interfaces := #[3, 4], accessFlags := 1041 }

/-- the primitive byte -/
def k7 : Class := { plain "byte" none with kind := .primitive 'B', accessFlags := 0x411 }
/-- [B -/
def k8 : Class := { plain "[B" (some 0) with kind := .array 7 .byte, interfaces := #[3, 4], accessFlags := 1041 }

/-- the primitive int -/
def k9 : Class := { plain "int" none with kind := .primitive 'I', accessFlags := 0x411 }
/-- [I -/
def k10 : Class := { plain "[I" (some 0) with kind := .array 9 .int, interfaces := #[3, 4], accessFlags := 1041 }

def heap : Heap := #[]
def classes : Array Class := #[k0, k1, k2, k3, k4, k5, k6, k7, k8, k9, k10]
def interned : List (Array UInt16 × Addr) := []
def slotsUsed : Nat := 0
def theMethod : MethodId := ⟨1, 1⟩
def args0 : Array Value := #[.int 3, .int 2, .int 1, .int 0]
def aboutOver (below : List Frame) : State where
  vm := { classes := classes, interned := interned.toArray }
  heap := heap
  slotsUsed := slotsUsed
  threads := #[{ frames := .invoking theMethod args0 :: below }]
def below0 : List Frame := [.native { method := ⟨0, 0⟩, args := #[] }]
def about1 : State := aboutOver below0
def p0 : Program := .bare "" "" ""
def e0 : Env := launch0.env 0 0 0
theorem w_frames : about1.frames = Frame.invoking theMethod args0 :: below0 := rfl
set_option maxRecDepth 65536 in
theorem w_args : argsFit about1.vm theMethod args0 = true := by decide +kernel
set_option maxRecDepth 65536 in
theorem w_heap : heapFits about1 = true := by decide +kernel
set_option maxRecDepth 65536 in
theorem w_runnable : about1.curStatus? = some .runnable := by decide +kernel
set_option maxRecDepth 65536 in
theorem w_alone : about1.alone = true := by decide +kernel
set_option maxRecDepth 65536 in
theorem w_named : about1.methodNamed? x = some theMethod := by decide +kernel
set_option maxRecDepth 65536 in
theorem w_hears : about1.hears theMethod below0 = true := by decide +kernel
set_option maxRecDepth 65536 in
theorem w_ripe : about1.ripe theMethod args0 below0 = true := by decide +kernel
theorem w_running : about1.status = .running := rfl
set_option maxRecDepth 65536 in
theorem w_room : about1.hasRoom e0.platform room_1 = true :=
  launch0.hasRoom_least _ room_1 (by decide +kernel) (by decide +kernel) (by decide +kernel) (by decide +kernel) (by decide +kernel) (by decide +kernel)
theorem allAtoms_all (ts : List Jvm.Cond) (a : Array Jvm.Value) (st : Jvm.State) : (allAtoms ts).before a st = ts.all (fun c => c.before a st) := by
  induction ts with
  | nil => rfl
  | cons c t ih =>
    show (Jvm.Cond.and c (allAtoms t)).before a st = _
    rw [Jvm.Cond.before_and, ih, List.all_cons]
def words1 : List Jvm.Cond := Jvm.Cond.code x code maxLocals ret :: tables_1
/-- a 'code' word, met by the world's own term for the bytes: nothing is compared byte by byte -/
theorem code_word {y : MethodName} {bytes : ByteArray} {mx : Nat} {rt : Option FieldType} {a : Array Value} {s : State} {m : MethodId} {meth : Method} {c : Code} (h1 : s.methodNamed? y = some m) (h2 : s.vm.method? m = some meth) (h3 : meth.code = some c) (h4 : c.code = bytes)
    (h5 : (c.maxLocals == mx && c.exceptionTable.isEmpty && decide (c.maxStack ≤ mostOperands) && decide (meth.sig.returnType = rt) && !meth.locks && decide (parseMethodDescriptor y.desc = some meth.sig)) = true) : (Jvm.Cond.code y bytes mx rt).before a s = true := by
  simp only [Bool.and_eq_true, beq_iff_eq, Bool.not_eq_true', decide_eq_true_eq] at h5
  obtain ⟨⟨⟨⟨⟨g1, g2⟩, g3⟩, g4⟩, g5⟩, g6⟩ := h5
  simp [Cond.before, Cond.holds, Cond.value, h1, h2, h3, h4, g1, g2, g3, g4, g5, g6]
def isCode : Jvm.Cond → Bool
  | .code _ _ _ _ => true
  | _ => false
theorem all_split {L : List Jvm.Cond} {P : Jvm.Cond → Bool} (h1 : L.all (fun c => isCode c || P c) = true) (h2 : ∀ c ∈ L.filter isCode, P c = true) : L.all P = true := by
  refine List.all_eq_true.mpr fun c hc => ?_
  have h := List.all_eq_true.mp h1 c hc
  rcases Bool.eq_false_or_eq_true (isCode c) with hi | hi
  · exact h2 c (List.mem_filter.mpr ⟨hc, hi⟩)
  · simpa [hi] using h
set_option maxRecDepth 65536 in
theorem w_c0 : (Jvm.Cond.code x code maxLocals ret).before args0 about1 = true := code_word (m := ⟨1, 1⟩) (meth := k1m1) (c := k1c1) (by decide +kernel) rfl rfl rfl (by decide +kernel)
set_option maxRecDepth 65536 in
theorem w_c1 : (Jvm.Cond.code ({ cls := "CausalStable", name := "<init>", desc := "(II)V" } : Jvm.MethodName) prog_1_method_1_code (5 : Nat) (Option.none : Option Jvm.ClassFile.FieldType)).before args0 about1 = true := code_word (m := ⟨2, 0⟩) (meth := k2m0) (c := k2c0) (by decide +kernel) rfl rfl rfl (by decide +kernel)
set_option maxRecDepth 65536 in
theorem w_c2 : (Jvm.Cond.code ({ cls := "java/lang/Object", name := "<init>", desc := "()V" } : Jvm.MethodName) object_method_1_code (1 : Nat) (Option.none : Option Jvm.ClassFile.FieldType)).before args0 about1 = true := code_word (m := ⟨0, 0⟩) (meth := k0m0) (c := k0c0) (by decide +kernel) rfl rfl rfl (by decide +kernel)
set_option maxRecDepth 65536 in
theorem w_c3 : (Jvm.Cond.code ({ cls := "CausalStable", name := "broadcast", desc := "(I)I" } : Jvm.MethodName) prog_1_method_13_code (5 : Nat) (Option.some Jvm.ClassFile.FieldType.int)).before args0 about1 = true := code_word (m := ⟨2, 8⟩) (meth := k2m8) (c := k2c8) (by decide +kernel) rfl rfl rfl (by decide +kernel)
set_option maxRecDepth 65536 in
theorem w_c4 : (Jvm.Cond.code ({ cls := "CausalStable", name := "validProc", desc := "(I)Z" } : Jvm.MethodName) prog_1_method_2_code (2 : Nat) (Option.some Jvm.ClassFile.FieldType.boolean)).before args0 about1 = true := code_word (m := ⟨2, 1⟩) (meth := k2m1) (c := k2c1) (by decide +kernel) rfl rfl rfl (by decide +kernel)
set_option maxRecDepth 65536 in
theorem w_c5 : (Jvm.Cond.code ({ cls := "CausalStable", name := "sent", desc := "(I)I" } : Jvm.MethodName) prog_1_method_21_code (2 : Nat) (Option.some Jvm.ClassFile.FieldType.int)).before args0 about1 = true := code_word (m := ⟨2, 9⟩) (meth := k2m9) (c := k2c9) (by decide +kernel) rfl rfl rfl (by decide +kernel)
set_option maxRecDepth 65536 in
theorem w_c6 : (Jvm.Cond.code ({ cls := "CausalStable", name := "stamp", desc := "(III)I" } : Jvm.MethodName) prog_1_method_22_code (5 : Nat) (Option.some Jvm.ClassFile.FieldType.int)).before args0 about1 = true := code_word (m := ⟨2, 10⟩) (meth := k2m10) (c := k2c10) (by decide +kernel) rfl rfl rfl (by decide +kernel)
set_option maxRecDepth 65536 in
theorem w_c7 : (Jvm.Cond.code ({ cls := "CausalStable", name := "exists", desc := "(II)Z" } : Jvm.MethodName) prog_1_method_3_code (3 : Nat) (Option.some Jvm.ClassFile.FieldType.boolean)).before args0 about1 = true := code_word (m := ⟨2, 2⟩) (meth := k2m2) (c := k2c2) (by decide +kernel) rfl rfl rfl (by decide +kernel)
set_option maxRecDepth 65536 in
theorem w_c8 : (Jvm.Cond.code ({ cls := "CausalStable", name := "copies", desc := "(III)I" } : Jvm.MethodName) prog_1_method_23_code (5 : Nat) (Option.some Jvm.ClassFile.FieldType.int)).before args0 about1 = true := code_word (m := ⟨2, 11⟩) (meth := k2m11) (c := k2c11) (by decide +kernel) rfl rfl rfl (by decide +kernel)
set_option maxRecDepth 65536 in
theorem w_c9 : (Jvm.Cond.code ({ cls := "CausalStable", name := "state", desc := "(III)I" } : Jvm.MethodName) prog_1_method_24_code (5 : Nat) (Option.some Jvm.ClassFile.FieldType.int)).before args0 about1 = true := code_word (m := ⟨2, 12⟩) (meth := k2m12) (c := k2c12) (by decide +kernel) rfl rfl rfl (by decide +kernel)
set_option maxRecDepth 65536 in
theorem w_c10 : (Jvm.Cond.code ({ cls := "CausalStable", name := "delivered", desc := "(II)I" } : Jvm.MethodName) prog_1_method_25_code (3 : Nat) (Option.some Jvm.ClassFile.FieldType.int)).before args0 about1 = true := code_word (m := ⟨2, 13⟩) (meth := k2m13) (c := k2c13) (by decide +kernel) rfl rfl rfl (by decide +kernel)
set_option maxRecDepth 65536 in
theorem w_c11 : (Jvm.Cond.code ({ cls := "CausalStable", name := "deliveredAt", desc := "(II)I" } : Jvm.MethodName) prog_1_method_26_code (3 : Nat) (Option.some Jvm.ClassFile.FieldType.int)).before args0 about1 = true := code_word (m := ⟨2, 14⟩) (meth := k2m14) (c := k2c14) (by decide +kernel) rfl rfl rfl (by decide +kernel)
set_option maxRecDepth 65536 in
theorem w_c12 : (Jvm.Cond.code ({ cls := "CausalStable", name := "known", desc := "(III)I" } : Jvm.MethodName) prog_1_method_27_code (5 : Nat) (Option.some Jvm.ClassFile.FieldType.int)).before args0 about1 = true := code_word (m := ⟨2, 15⟩) (meth := k2m15) (c := k2c15) (by decide +kernel) rfl rfl rfl (by decide +kernel)
set_option maxRecDepth 65536 in
theorem w_c13 : (Jvm.Cond.code ({ cls := "CausalStable", name := "msgIndex", desc := "(II)I" } : Jvm.MethodName) prog_1_method_4_code (3 : Nat) (Option.some Jvm.ClassFile.FieldType.int)).before args0 about1 = true := code_word (m := ⟨2, 3⟩) (meth := k2m3) (c := k2c3) (by decide +kernel) rfl rfl rfl (by decide +kernel)
set_option maxRecDepth 65536 in
theorem w_c14 : (Jvm.Cond.code ({ cls := "CausalStable", name := "deliverAt", desc := "(III)V" } : Jvm.MethodName) prog_1_method_8_code (7 : Nat) (Option.none : Option Jvm.ClassFile.FieldType)).before args0 about1 = true := code_word (m := ⟨2, 7⟩) (meth := k2m7) (c := k2c7) (by decide +kernel) rfl rfl rfl (by decide +kernel)
set_option maxRecDepth 65536 in
theorem w_c15 : (Jvm.Cond.code ({ cls := "CausalStable", name := "stateIndex", desc := "(III)I" } : Jvm.MethodName) prog_1_method_5_code (4 : Nat) (Option.some Jvm.ClassFile.FieldType.int)).before args0 about1 = true := code_word (m := ⟨2, 4⟩) (meth := k2m4) (c := k2c4) (by decide +kernel) rfl rfl rfl (by decide +kernel)
set_option maxRecDepth 65536 in
theorem w_c16 : (Jvm.Cond.code ({ cls := "CausalStable", name := "knownIndex", desc := "(III)I" } : Jvm.MethodName) prog_1_method_7_code (4 : Nat) (Option.some Jvm.ClassFile.FieldType.int)).before args0 about1 = true := code_word (m := ⟨2, 6⟩) (meth := k2m6) (c := k2c6) (by decide +kernel) rfl rfl rfl (by decide +kernel)
set_option maxRecDepth 65536 in
theorem w_c17 : (Jvm.Cond.code ({ cls := "CausalStable", name := "copyIndex", desc := "(III)I" } : Jvm.MethodName) prog_1_method_6_code (4 : Nat) (Option.some Jvm.ClassFile.FieldType.int)).before args0 about1 = true := code_word (m := ⟨2, 5⟩) (meth := k2m5) (c := k2c5) (by decide +kernel) rfl rfl rfl (by decide +kernel)
def codes1 : List Jvm.Cond := [Jvm.Cond.code x code maxLocals ret, Jvm.Cond.code ({ cls := "CausalStable", name := "<init>", desc := "(II)V" } : Jvm.MethodName) prog_1_method_1_code (5 : Nat) (Option.none : Option Jvm.ClassFile.FieldType), Jvm.Cond.code ({ cls := "java/lang/Object", name := "<init>", desc := "()V" } : Jvm.MethodName) object_method_1_code (1 : Nat) (Option.none : Option Jvm.ClassFile.FieldType), Jvm.Cond.code ({ cls := "CausalStable", name := "broadcast", desc := "(I)I" } : Jvm.MethodName) prog_1_method_13_code (5 : Nat) (Option.some Jvm.ClassFile.FieldType.int), Jvm.Cond.code ({ cls := "CausalStable", name := "validProc", desc := "(I)Z" } : Jvm.MethodName) prog_1_method_2_code (2 : Nat) (Option.some Jvm.ClassFile.FieldType.boolean), Jvm.Cond.code ({ cls := "CausalStable", name := "sent", desc := "(I)I" } : Jvm.MethodName) prog_1_method_21_code (2 : Nat) (Option.some Jvm.ClassFile.FieldType.int), Jvm.Cond.code ({ cls := "CausalStable", name := "stamp", desc := "(III)I" } : Jvm.MethodName) prog_1_method_22_code (5 : Nat) (Option.some Jvm.ClassFile.FieldType.int), Jvm.Cond.code ({ cls := "CausalStable", name := "exists", desc := "(II)Z" } : Jvm.MethodName) prog_1_method_3_code (3 : Nat) (Option.some Jvm.ClassFile.FieldType.boolean), Jvm.Cond.code ({ cls := "CausalStable", name := "copies", desc := "(III)I" } : Jvm.MethodName) prog_1_method_23_code (5 : Nat) (Option.some Jvm.ClassFile.FieldType.int), Jvm.Cond.code ({ cls := "CausalStable", name := "state", desc := "(III)I" } : Jvm.MethodName) prog_1_method_24_code (5 : Nat) (Option.some Jvm.ClassFile.FieldType.int), Jvm.Cond.code ({ cls := "CausalStable", name := "delivered", desc := "(II)I" } : Jvm.MethodName) prog_1_method_25_code (3 : Nat) (Option.some Jvm.ClassFile.FieldType.int), Jvm.Cond.code ({ cls := "CausalStable", name := "deliveredAt", desc := "(II)I" } : Jvm.MethodName) prog_1_method_26_code (3 : Nat) (Option.some Jvm.ClassFile.FieldType.int), Jvm.Cond.code ({ cls := "CausalStable", name := "known", desc := "(III)I" } : Jvm.MethodName) prog_1_method_27_code (5 : Nat) (Option.some Jvm.ClassFile.FieldType.int), Jvm.Cond.code ({ cls := "CausalStable", name := "msgIndex", desc := "(II)I" } : Jvm.MethodName) prog_1_method_4_code (3 : Nat) (Option.some Jvm.ClassFile.FieldType.int), Jvm.Cond.code ({ cls := "CausalStable", name := "deliverAt", desc := "(III)V" } : Jvm.MethodName) prog_1_method_8_code (7 : Nat) (Option.none : Option Jvm.ClassFile.FieldType), Jvm.Cond.code ({ cls := "CausalStable", name := "stateIndex", desc := "(III)I" } : Jvm.MethodName) prog_1_method_5_code (4 : Nat) (Option.some Jvm.ClassFile.FieldType.int), Jvm.Cond.code ({ cls := "CausalStable", name := "knownIndex", desc := "(III)I" } : Jvm.MethodName) prog_1_method_7_code (4 : Nat) (Option.some Jvm.ClassFile.FieldType.int), Jvm.Cond.code ({ cls := "CausalStable", name := "copyIndex", desc := "(III)I" } : Jvm.MethodName) prog_1_method_6_code (4 : Nat) (Option.some Jvm.ClassFile.FieldType.int)]
set_option maxRecDepth 65536 in
theorem codes_eq : words1.filter isCode = codes1 := rfl
theorem w_codes : ∀ c ∈ words1.filter isCode, c.before args0 about1 = true := by
  rw [codes_eq]
  intro c hc
  simp only [codes1, List.mem_cons, List.not_mem_nil, or_false] at hc
  rcases hc with rfl | rfl | rfl | rfl | rfl | rfl | rfl | rfl | rfl | rfl | rfl | rfl | rfl | rfl | rfl | rfl | rfl | rfl
  · exact w_c0
  · exact w_c1
  · exact w_c2
  · exact w_c3
  · exact w_c4
  · exact w_c5
  · exact w_c6
  · exact w_c7
  · exact w_c8
  · exact w_c9
  · exact w_c10
  · exact w_c11
  · exact w_c12
  · exact w_c13
  · exact w_c14
  · exact w_c15
  · exact w_c16
  · exact w_c17
set_option maxRecDepth 65536 in
theorem w_t1 : (words1.take 24).all (fun c => isCode c || c.before args0 about1) = true := by decide +kernel
set_option maxRecDepth 65536 in
theorem w_t2 : ((words1.drop 24).take 24).all (fun c => isCode c || c.before args0 about1) = true := by decide +kernel
set_option maxRecDepth 65536 in
theorem w_t3 : (((words1.drop 24).drop 24).take 24).all (fun c => isCode c || c.before args0 about1) = true := by decide +kernel
set_option maxRecDepth 65536 in
theorem w_t4 : ((((words1.drop 24).drop 24).drop 24).take 24).all (fun c => isCode c || c.before args0 about1) = true := by decide +kernel
set_option maxRecDepth 65536 in
theorem w_t5 : ((((words1.drop 24).drop 24).drop 24).drop 24).all (fun c => isCode c || c.before args0 about1) = true := by decide +kernel
theorem w_tables : (allAtoms (Jvm.Cond.code x code maxLocals ret :: tables_1)).before args0 about1 = true := by
  rw [allAtoms_all]
  show words1.all (fun c => c.before args0 about1) = true
  refine all_split ?_ w_codes
  rw [← List.take_append_drop 24 words1, List.all_append, w_t1, ← List.take_append_drop 24 (words1.drop 24), List.all_append, w_t2, ← List.take_append_drop 24 ((words1.drop 24).drop 24), List.all_append, w_t3, ← List.take_append_drop 24 (((words1.drop 24).drop 24).drop 24), List.all_append, w_t4, w_t5]
  rfl
set_option maxRecDepth 65536 in
theorem w_case : (Jvm.Cond.and given_1 narrow_1).before args0 about1 = true := by decide +kernel
theorem w_applies : (headSpec (Jvm.Cond.code x code maxLocals ret :: tables_1) room_1).applies x e0.platform about1 = true :=
  (Spec.applies_iff w_frames).mpr ⟨w_running, w_runnable, w_alone, w_named, w_hears, w_ripe, w_room, w_tables⟩
theorem atStart : AtStart classFile x code maxLocals ret World_1 tables_1 room_1 Calls_1 rest_1 Pre_1 launch0 p0 e0 about1 theMethod args0 below0 :=
  ⟨lists_1, trivial, launch0.admits_env _ _ _, launch0.least_env, fairChoices_fair.cas, fairChoices_fair.clock, w_frames, w_args, w_heap, w_applies, trivial, trivial, w_case⟩
end start1
theorem witness_1 : WitnessClaimed_1 := ⟨start1.p0, start1.e0, start1.about1, start1.theMethod, start1.args0, start1.below0, start1.atStart⟩
end Jvm.Pilot.@@N@@
