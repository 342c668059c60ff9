import JvmDerived
import JvmDerived.Pilot.@@N@@Statement
import JvmDerived.Pilot.@@N@@Code
set_option linter.unusedVariables false
set_option linter.unusedSimpArgs false
namespace Jvm.RoadKit
open Sem ClassFile Op Lib Jvm.Stand Jvm.Free Jvm.LawKit
section New
variable {p : Program} {l : Launch} {e : Env} {R : Room} {s : State} {m : MethodId} {args : Array Value} {below : List Frame} {meth : Method} {c : Code} {T : State} {locs : List Loc} {cells slots : Nat}
theorem retI (X : Stand p l e R s m args below meth c T locs cells slots) (hx : p.tables.exec = Jvm.exec) {pc : Nat} {Ls : Array Slot} {z : Int32} {rest : List Value} (hret : meth.sig.returnType = some .int) (hd : decode c.code pc = .ok (.ireturn, 1)) {fs : List Frame}
    (hl : ∀ (f : JFrame) (acts : List Action), f.method = m → f.locked = none → f.entered = [] → (doReturn e (T.setTop f) acts (some (.int z))).1 = T.setFrames fs) : Steps p.tables e below (T.setTop (mkF m pc Ls (.int z :: rest))) (T.setFrames fs) := by
  have hm' : T.vm.method? m = some meth := X.method'
  have hn : narrow .int (.int z) = .int z := rfl
  show Steps p.tables e below (T.setTop { method := m, pc := pc, locals := Ls, stack := _ :: rest, locked := none }) _
  jvm_step X.here [X.here.top, hx, hd, hm', hret, hn]
  first | (intro acts; rw [hl _ acts rfl rfl rfl]) | rw [hl _ _ rfl rfl rfl]
  exact Steps.refl _
end New
end Jvm.RoadKit
namespace Jvm.Pilot.@@N@@
open Jvm Jvm.ClassFile Sem Op Lib Jvm.Free Jvm.Stand Jvm.LawKit Jvm.RoadKit Bundle Jvm.Pilot.@@N@@.Jvm.D
/- records: scalars, int-like arrays, long arrays -/
abbrev Rec : Type := (Nat → Int32) × (Nat → Int32 → Int32) × (Nat → Int32 → Int64)
def zrec : Rec := (fun _ => 0, fun _ _ => 0, fun _ _ => 0)
def gI (ob : Rec) (k : Nat) : Int32 := ob.1 k
def gA (ob : Rec) (k : Nat) (i : Int32) : Int32 := ob.2.1 k i
def gJ (ob : Rec) (k : Nat) (i : Int32) : Int64 := ob.2.2 k i
def sI (ob : Rec) (k : Nat) (v : Int32) : Rec := (fun j => if j = k then v else ob.1 j, ob.2)
def sA (ob : Rec) (k : Nat) (i v : Int32) : Rec := (ob.1, fun j x => if j = k ∧ x = i then v else ob.2.1 j x, ob.2.2)
def sJ (ob : Rec) (k : Nat) (i : Int32) (v : Int64) : Rec := (ob.1, ob.2.1, fun j x => if j = k ∧ x = i then v else ob.2.2 j x)
def chk {γ : Type} (n i : Int32) (A : Option γ) : Option γ := if i < 0 then none else if i < n then A else none
def dvz {γ : Type} (y : Int32) (A : Option γ) : Option γ := if y = 0 then none else A
def bind2 {α β γ : Type} (o : Option (α × β)) (f : α → β → Option γ) : Option γ := o.bind fun q => f q.1 q.2
def bind3 {α β γ δ : Type} (o : Option (α × β × δ)) (f : α → β → δ → Option γ) : Option γ := o.bind fun q => f q.1 q.2.1 q.2.2
theorem ite_el {c : Prop} [Decidable c] {γ : Type} {A B : Option γ} {r : γ} {Q : Prop} (h : (if c then A else B) = some r) (t : c → A = some r → Q) (e : ¬ c → B = some r → Q) : Q := by
  by_cases hc : c
  · rw [if_pos hc] at h; exact t hc h
  · rw [if_neg hc] at h; exact e hc h
theorem bind_el {α γ : Type} {o : Option α} {f : α → Option γ} {r : γ} {Q : Prop} (h : o.bind f = some r) (k : ∀ x, o = some x → f x = some r → Q) : Q := by
  cases o with
  | none => cases h
  | some x => exact k x rfl h
theorem bind2_el {α β γ : Type} {o : Option (α × β)} {f : α → β → Option γ} {r : γ} {Q : Prop} (h : bind2 o f = some r) (k : ∀ x y, o = some (x, y) → f x y = some r → Q) : Q := by
  rcases o with _ | ⟨x, y⟩
  · cases h
  · exact k x y rfl h
theorem bind3_el {α β γ δ : Type} {o : Option (α × β × δ)} {f : α → β → δ → Option γ} {r : γ} {Q : Prop} (h : bind3 o f = some r) (k : ∀ x y z, o = some (x, y, z) → f x y z = some r → Q) : Q := by
  rcases o with _ | ⟨x, y, z⟩
  · cases h
  · exact k x y z rfl h
theorem chk_el {γ : Type} {n i : Int32} {A : Option γ} {r : γ} {Q : Prop} (h : chk n i A = some r) (k : (¬ i < 0 ∧ i < n) → A = some r → Q) : Q := by
  unfold chk at h
  by_cases h0 : i < 0
  · rw [if_pos h0] at h; cases h
  · rw [if_neg h0] at h
    by_cases h1 : i < n
    · rw [if_pos h1] at h; exact k ⟨h0, h1⟩ h
    · rw [if_neg h1] at h; cases h
theorem dvz_el {γ : Type} {y : Int32} {A : Option γ} {r : γ} {Q : Prop} (h : dvz y A = some r) (k : y ≠ 0 → A = some r → Q) : Q := by
  unfold dvz at h
  by_cases h0 : y = 0
  · rw [if_pos h0] at h; cases h
  · rw [if_neg h0] at h; exact k h0 h
def All {α : Type} (p : α → Prop) : List α → Prop
  | [] => True
  | x :: l => p x ∧ All p l
theorem All.mem {α : Type} {p : α → Prop} : ∀ {l : List α}, All p l → ∀ {x : α}, x ∈ l → p x
  | [], _, _, h => nomatch h
  | _ :: _, H, _, h => (List.mem_cons.mp h).elim (fun e => e ▸ H.1) (fun e => All.mem H.2 e)
def el (ty : FieldType) (ob : Rec) (k : Nat) (j : Int32) : Value := match ty with
  | .long => .long (ob.2.2 k j)
  | _ => .int (ob.2.1 k j)
def aD (ty : FieldType) : String := match ty with
  | .int => "[I"
  | .boolean => "[Z"
  | _ => "[J"
abbrev Cls : Type := String × List (String × String) × List (String × FieldType × Int32)
abbrev mem1 (k : Nat) {d : Jvm.Cond} (h : tables_1[k]? = some d) : d ∈ tables_1 := List.mem_of_getElem? h
abbrev sOk (C : String) (nd : String × String) : Prop := (Jvm.Cond.lays C C nd.1 nd.2 ∈ tables_1 ∨ Jvm.Cond.laysFinal C C nd.1 nd.2 ∈ tables_1) ∧ (nd.2 = "I" ∨ nd.2 = "Z")
abbrev aOk (C : String) (t : String × FieldType × Int32) : Prop := (Jvm.Cond.lays C C t.1 (aD t.2.1) ∈ tables_1 ∨ Jvm.Cond.laysFinal C C t.1 (aD t.2.1) ∈ tables_1) ∧ (t.2.1 = .int ∨ t.2.1 = .boolean ∨ t.2.1 = .long) ∧ ¬ t.2.2 < 0
def K : Cls := ("CausalStable", [("n", "I"), ("cap", "I")], [("sentCount", .int, 8), ("crashedFlag", .boolean, 8), ("del", .int, 64), ("msgState", .int, 512), ("stampArr", .int, 512), ("copyArr", .int, 512), ("known", .int, 512), ("list", .int, 512), ("listLen", .int, 8)])
theorem kS : All (sOk K.1) K.2.1 := ⟨⟨Or.inl (mem1 30 rfl), Or.inl rfl⟩, ⟨Or.inl (mem1 32 rfl), Or.inl rfl⟩, trivial⟩
theorem kA : All (aOk K.1) K.2.2 := ⟨⟨Or.inl (mem1 11 rfl), Or.inl rfl, by decide⟩, ⟨Or.inl (mem1 14 rfl), Or.inr (Or.inl rfl), by decide⟩, ⟨Or.inl (mem1 16 rfl), Or.inl rfl, by decide⟩, ⟨Or.inl (mem1 18 rfl), Or.inl rfl, by decide⟩, ⟨Or.inl (mem1 20 rfl), Or.inl rfl, by decide⟩, ⟨Or.inl (mem1 22 rfl), Or.inl rfl, by decide⟩, ⟨Or.inl (mem1 24 rfl), Or.inl rfl, by decide⟩, ⟨Or.inl (mem1 26 rfl), Or.inl rfl, by decide⟩, ⟨Or.inl (mem1 28 rfl), Or.inl rfl, by decide⟩, trivial⟩
abbrev kN : Nat := 11
theorem kI : Jvm.Cond.instantiable K.1 kN ∈ tables_1 := mem1 1 rfl
theorem kZ : Jvm.Cond.initialized K.1 ∈ tables_1 := mem1 2 rfl
theorem kNm : (K.2.1.map (·.1) ++ K.2.2.map (·.1)).Nodup := by decide +kernel
theorem nm_ss {k k' : Nat} {nd nd' : String × String} (h : K.2.1[k]? = some nd) (h' : K.2.1[k']? = some nd') (ne : k ≠ k') : nd.1 ≠ nd'.1 := fun e => by
  have l := (List.getElem?_eq_some_iff.mp h).1
  have l' := (List.getElem?_eq_some_iff.mp h').1
  refine ne ((List.getElem?_inj (l := K.2.1.map (·.1) ++ K.2.2.map (·.1)) (i := k) (j := k') (by simp; omega) kNm).mp ?_)
  rw [List.getElem?_append_left (by simpa using l), List.getElem?_append_left (by simpa using l'), List.getElem?_map, List.getElem?_map, h, h']
  simp [e]
theorem nm_aa {k k' : Nat} {t t' : String × FieldType × Int32} (h : K.2.2[k]? = some t) (h' : K.2.2[k']? = some t') (ne : k ≠ k') : t.1 ≠ t'.1 := fun e => by
  have l := (List.getElem?_eq_some_iff.mp h).1
  have l' := (List.getElem?_eq_some_iff.mp h').1
  have q := (List.getElem?_inj (l := K.2.1.map (·.1) ++ K.2.2.map (·.1)) (i := K.2.1.length + k) (j := K.2.1.length + k') (by simp; omega) kNm).mp (by
    rw [List.getElem?_append_right (by simp), List.getElem?_append_right (by simp)]
    simp [h, h', e])
  omega
theorem nm_sa {k k' : Nat} {nd : String × String} {t : String × FieldType × Int32} (h : K.2.1[k]? = some nd) (h' : K.2.2[k']? = some t) : nd.1 ≠ t.1 := fun e => by
  have l := (List.getElem?_eq_some_iff.mp h).1
  have l' := (List.getElem?_eq_some_iff.mp h').1
  have q := (List.getElem?_inj (l := K.2.1.map (·.1) ++ K.2.2.map (·.1)) (i := k) (j := K.2.1.length + k') (by simp; omega) kNm).mp (by
    rw [List.getElem?_append_left (by simpa using l), List.getElem?_append_right (by simp)]
    simp [h, h', e])
  omega
abbrev Ctx : Type := Launch × State × Nat × Array Value
def Ok (C : Ctx) : Prop := ∀ d ∈ tables_1, d.before C.2.2.2 C.2.1 = true
def ArrAt (Z : State) (h : Heap) (b : Nat) (ty : FieldType) (len : Int32) (v : Int32 → Value) : Prop := ∃ cl : Cell, Arr Z h b cl ty ∧ cl.slots.size = len.toNatClampNeg ∧ ∀ j : Int32, ¬ j < 0 → j < len → cl.slots[j.toNatClampNeg]? = some (v j)
def ObjAt (Z : State) (h : Heap) (a : Nat) (q : Nat) (ob : Rec) : Prop :=
  Exa Z h a K.1 ∧ (∀ k nd, K.2.1[k]? = some nd → Fld Z h a K.1 nd.1 nd.2 (.int (ob.1 k))) ∧
  (∀ k t, K.2.2[k]? = some t → k < q → Fld Z h a K.1 t.1 (aD t.2.1) (.ref (a + 1 + k)) ∧ ArrAt Z h (a + 1 + k) t.2.1 t.2.2 (el t.2.1 ob k)) ∧
  (∀ k t, K.2.2[k]? = some t → q ≤ k → Fld Z h a K.1 t.1 (aD t.2.1) .null)
abbrev AH : Type := Nat × List (Nat × Nat × Rec)
def Rep (Z : State) (n0 : Nat) (h : Heap) (G : AH) : Prop :=
  h.size = G.1 ∧ Old Z n0 h ∧ (∀ x ∈ G.2, n0 ≤ x.1 ∧ x.1 + x.2.1 < G.1 ∧ ObjAt Z h x.1 x.2.1 x.2.2) ∧ G.2.Pairwise (fun x y => x.1 + x.2.1 < y.1 ∨ y.1 + y.2.1 < x.1)
section Facts
variable {Z : State} {h h' : Heap} {a b : Nat} {q k n0 top : Nat} {ob ob' : Rec} {nd : String × String} {t : String × FieldType × Int32} {a0 : Array Value} {sl : Nat} {v : Value} {H : List (Nat × Nat × Rec)} {G : AH}
theorem fld_fr {C n d : String} (e : h'[a]? = h[a]?) (F : Fld Z h a C n d v) : Fld Z h' a C n d v := by
  obtain ⟨cell, cf, k, i, f, h1, r⟩ := F; exact ⟨cell, cf, k, i, f, e.trans h1, r⟩
theorem exa_fr {C : String} (e : h'[a]? = h[a]?) (F : Exa Z h a C) : Exa Z h' a C := by
  obtain ⟨cell, k, h1, r⟩ := F; exact ⟨cell, k, e.trans h1, r⟩
theorem arrAt_fr {ty : FieldType} {len : Int32} {w : Int32 → Value} (e : h'[a]? = h[a]?) (F : ArrAt Z h a ty len w) : ArrAt Z h' a ty len w := by
  obtain ⟨cl, A, r⟩ := F; exact ⟨cl, ⟨e.trans A.1, A.2⟩, r⟩
theorem ObjAt.frame (e : ∀ b, a ≤ b → b ≤ a + q → h'[b]? = h[b]?) (F : ObjAt Z h a q ob) : ObjAt Z h' a q ob := by
  have e0 := e a (Nat.le_refl _) (Nat.le_add_right _ _)
  refine ⟨exa_fr e0 F.1, fun k nd hk => fld_fr e0 (F.2.1 k nd hk), fun k t hk hq => ⟨fld_fr e0 (F.2.2.1 k t hk hq).1, arrAt_fr (e _ (by omega) (by omega)) (F.2.2.1 k t hk hq).2⟩, fun k t hk hq => fld_fr e0 (F.2.2.2 k t hk hq)⟩
theorem ObjAt.ext (E : Ext h h') (F : ObjAt Z h a q ob) : ObjAt Z h' a q ob := by
  refine ⟨F.1.ext E, fun k nd hk => (F.2.1 k nd hk).ext E, fun k t hk hq => ⟨(F.2.2.1 k t hk hq).1.ext E, ?_⟩, fun k t hk hq => (F.2.2.2 k t hk hq).ext E⟩
  obtain ⟨cl, A, r⟩ := (F.2.2.1 k t hk hq).2; exact ⟨cl, A.ext E, r⟩
theorem wr_ne (W : Wr h h' a sl v) (ne : b ≠ a) : h'[b]? = h[b]? := by
  obtain ⟨cell, -, -, -, rfl⟩ := W; exact Array.getElem?_setIfInBounds_ne (Ne.symm ne)
theorem laidS (hw : ∀ d ∈ tables_1, d.before a0 Z = true) (hk : K.2.1[k]? = some nd) : Laid Z a0 K.1 K.1 nd.1 nd.2 := ((All.mem kS (List.mem_of_getElem? hk)).1).imp (hw _) (hw _)
theorem laidA (hw : ∀ d ∈ tables_1, d.before a0 Z = true) (hk : K.2.2[k]? = some t) : Laid Z a0 K.1 K.1 t.1 (aD t.2.1) := ((All.mem kA (List.mem_of_getElem? hk)).1).imp (hw _) (hw _)
theorem pfS (hk : K.2.1[k]? = some nd) : ∃ ty, parseFieldDescriptor nd.2 = some ty := by
  rcases (All.mem kS (List.mem_of_getElem? hk)).2 with e | e <;> rw [e]
  · exact ⟨.int, by decide⟩
  · exact ⟨.boolean, by decide⟩
theorem pfA (hk : K.2.2[k]? = some t) : parseFieldDescriptor (aD t.2.1) = some (.array t.2.1) := by
  rcases (All.mem kA (List.mem_of_getElem? hk)).2.1 with e | e | e <;> rw [e] <;> decide
theorem ObjAt.putI {x : Int32} (hw : ∀ d ∈ tables_1, d.before a0 Z = true) (F : ObjAt Z h a q ob) (hk : K.2.1[k]? = some nd) (W : Wr h h' a (Jvm.RoadKit.slotOf Z K.1 nd.1 nd.2) (.int x)) : ObjAt Z h' a q (sI ob k x) := by
  obtain ⟨ty, hty⟩ := pfS hk
  refine ⟨F.1.wr W, fun k' nd' hk' => ?_, fun k' t hk' hq => ⟨(F.2.2.1 k' t hk' hq).1.other W (Or.inr (Jvm.RoadKit.slot_ne (laidA hw hk') (laidS hw hk) (Ne.symm (nm_sa hk hk')) (pfA hk') hty)), ?_⟩, fun k' t hk' hq => (F.2.2.2 k' t hk' hq).other W (Or.inr (Jvm.RoadKit.slot_ne (laidA hw hk') (laidS hw hk) (Ne.symm (nm_sa hk hk')) (pfA hk') hty))⟩
  · by_cases e : k' = k
    · subst e; cases hk.symm.trans hk'
      have := (F.2.1 k' nd hk).same W
      simpa [sI] using this
    · obtain ⟨ty', hty'⟩ := pfS hk'
      have := (F.2.1 k' nd' hk').other W (Or.inr (Jvm.RoadKit.slot_ne (laidS hw hk') (laidS hw hk) (nm_ss hk' hk e) hty' hty))
      simpa [sI, e] using this
  · have := arrAt_fr (wr_ne W (by omega)) (F.2.2.1 k' t hk' hq).2
    have e : el t.2.1 (sI ob k x) k' = el t.2.1 ob k' := by funext j; unfold el; split <;> rfl
    rw [e]; exact this
theorem ObjAt.putA (F : ObjAt Z h a q ob) (hk : K.2.2[k]? = some t) (hq : k < q) {x : Value} {j : Int32} (hj : ¬ j < 0 ∧ j < t.2.2) (W : Wr h h' (a + 1 + k) j.toNatClampNeg x)
    (e1 : el t.2.1 ob' k = fun i => if i = j then x else el t.2.1 ob k i) (e2 : ∀ k' t', k' ≠ k → el t' ob' k' = el t' ob k') (e3 : ob'.1 = ob.1) : ObjAt Z h' a q ob' := by
  have u : h'[a]? = h[a]? := wr_ne W (by omega)
  refine ⟨exa_fr u F.1, fun k' nd hk' => by rw [e3]; exact fld_fr u (F.2.1 k' nd hk'), fun k' t' hk' hq' => ⟨fld_fr u (F.2.2.1 k' t' hk' hq').1, ?_⟩, fun k' t' hk' hq' => fld_fr u (F.2.2.2 k' t' hk' hq')⟩
  by_cases e : k' = k
  · subst e; cases hk.symm.trans hk'
    obtain ⟨cl, A, S, V⟩ := (F.2.2.1 k' t hk hq).2
    have inb : ¬ (j < 0 ∨ cl.slots.size ≤ j.toNatClampNeg) := inb_of S hj
    refine ⟨_, A.same W, by rw [sz_set]; exact S, fun i h0 h1 => ?_⟩
    rw [e1]
    by_cases ei : i = j
    · simp only [ei, if_true]; exact get_hit inb rfl
    · simp only [ei, if_false]; rw [get_miss hj.1 h0 ei]; exact V i h0 h1
  · rw [e2 k' _ e]; exact arrAt_fr (wr_ne W (by omega)) (F.2.2.1 k' t' hk' hq').2
theorem el_sA {ty : FieldType} (ht : ty ≠ .long) (j x : Int32) : el ty (sA ob k j x) k = fun i => if i = j then .int x else el ty ob k i := by
  funext i; cases ty <;> first | exact absurd rfl ht | (simp only [el, sA, true_and]; split <;> rfl)
theorem el_sJ (j : Int32) (x : Int64) : el .long (sJ ob k j x) k = fun i => if i = j then .long x else el .long ob k i := by
  funext i; simp only [el, sJ, true_and]; split <;> rfl
theorem el_sA' (j x : Int32) (k' : Nat) (t' : FieldType) (ne : k' ≠ k) : el t' (sA ob k j x) k' = el t' ob k' := by
  funext i; cases t' <;> simp [el, sA, ne]
theorem el_sJ' (j : Int32) (x : Int64) (k' : Nat) (t' : FieldType) (ne : k' ≠ k) : el t' (sJ ob k j x) k' = el t' ob k' := by
  funext i; cases t' <;> simp [el, sJ, ne]
theorem Rep.upd (R : Rep Z n0 h (top, (a, q, ob) :: H)) (hs : h'.size = h.size) (hO : Old Z n0 h') (e : ∀ b, (b < a ∨ a + q < b) → h'[b]? = h[b]?) (F : ObjAt Z h' a q ob') : Rep Z n0 h' (top, (a, q, ob') :: H) := by
  obtain ⟨r1, r2, r3, r4⟩ := R
  refine ⟨hs.trans r1, hO, fun x hx => ?_, ?_⟩
  · rcases List.mem_cons.mp hx with rfl | hx
    · exact ⟨(r3 _ (List.mem_cons_self ..)).1, (r3 _ (List.mem_cons_self ..)).2.1, F⟩
    · obtain ⟨p1, p2, p3⟩ := r3 x (List.mem_cons_of_mem _ hx)
      refine ⟨p1, p2, p3.frame fun b h1 h2 => e b ?_⟩
      have := (List.pairwise_cons.mp r4).1 x hx
      simp only at this
      omega
  · have := List.pairwise_cons.mp r4
    exact List.pairwise_cons.mpr ⟨fun y hy => this.1 y hy, this.2⟩
theorem Rep.objs (R : Rep Z n0 h (top, (a, q, ob) :: H)) : n0 ≤ a ∧ a + q < top ∧ ObjAt Z h a q ob := R.2.2.1 _ (List.mem_cons_self ..)
theorem Rep.putI {x : Int32} (hw : ∀ d ∈ tables_1, d.before a0 Z = true) (R : Rep Z n0 h (top, (a, q, ob) :: H)) (hk : K.2.1[k]? = some nd) (W : Wr h h' a (Jvm.RoadKit.slotOf Z K.1 nd.1 nd.2) (.int x)) : Rep Z n0 h' (top, (a, q, sI ob k x) :: H) :=
  R.upd W.size (R.2.1.wr W R.objs.1) (fun b hb => wr_ne W (by omega)) (R.objs.2.2.putI hw hk W)
theorem Rep.putA {x j : Int32} (R : Rep Z n0 h (top, (a, q, ob) :: H)) (hk : K.2.2[k]? = some t) (hq : k < q) (ht : t.2.1 ≠ .long) (hj : ¬ j < 0 ∧ j < t.2.2) (W : Wr h h' (a + 1 + k) j.toNatClampNeg (.int x)) : Rep Z n0 h' (top, (a, q, sA ob k j x) :: H) :=
  R.upd W.size (R.2.1.wr W (by have := R.objs.1; omega)) (fun b hb => wr_ne W (by omega)) (R.objs.2.2.putA hk hq hj W (el_sA ht j x) (fun k' t' ne => el_sA' j x k' t' ne) rfl)
theorem Rep.putJ {j : Int32} {x : Int64} (R : Rep Z n0 h (top, (a, q, ob) :: H)) (hk : K.2.2[k]? = some t) (hq : k < q) (ht : t.2.1 = .long) (hj : ¬ j < 0 ∧ j < t.2.2) (W : Wr h h' (a + 1 + k) j.toNatClampNeg (.long x)) : Rep Z n0 h' (top, (a, q, sJ ob k j x) :: H) :=
  R.upd W.size (R.2.1.wr W (by have := R.objs.1; omega)) (fun b hb => wr_ne W (by omega)) (R.objs.2.2.putA hk hq hj W (by rw [ht]; exact el_sJ j x) (fun k' t' ne => el_sJ' j x k' t' ne) rfl)
theorem Rep.swap {x y : Nat × Nat × Rec} (R : Rep Z n0 h (top, x :: y :: H)) : Rep Z n0 h (top, y :: x :: H) := by
  obtain ⟨r1, r2, r3, r4⟩ := R
  refine ⟨r1, r2, fun z hz => r3 z ?_, ?_⟩
  · simp only [List.mem_cons] at hz ⊢
    rcases hz with e | e | e
    · exact Or.inr (Or.inl e)
    · exact Or.inl e
    · exact Or.inr (Or.inr e)
  · simp only [List.pairwise_cons, List.mem_cons] at r4 ⊢
    obtain ⟨p1, p2, p3⟩ := r4
    refine ⟨fun z hz => ?_, fun z hz => p1 z (Or.inr hz), p3⟩
    rcases hz with rfl | hz
    · exact (p1 _ (Or.inl rfl)).symm
    · exact p2 z hz
theorem ObjAt.addA (hw : ∀ d ∈ tables_1, d.before a0 Z = true) (F : ObjAt Z h a k ob) (hk : K.2.2[k]? = some t) (A : ArrAt Z h (a + 1 + k) t.2.1 t.2.2 (el t.2.1 ob k)) (W : Wr h h' a (Jvm.RoadKit.slotOf Z K.1 t.1 (aD t.2.1)) (.ref (a + 1 + k))) : ObjAt Z h' a (k + 1) ob := by
  refine ⟨F.1.wr W, fun k' nd hk' => ?_, fun k' t' hk' hq => ?_, fun k' t' hk' hq => ?_⟩
  · obtain ⟨ty', hty'⟩ := pfS hk'
    exact (F.2.1 k' nd hk').other W (Or.inr (Jvm.RoadKit.slot_ne (laidS hw hk') (laidA hw hk) (nm_sa hk' hk) hty' (pfA hk)))
  · by_cases e : k' = k
    · subst e
      have et : t = t' := Option.some.inj (hk.symm.trans hk')
      subst et
      exact ⟨(F.2.2.2 k' t hk (Nat.le_refl _)).same W, arrAt_fr (wr_ne W (by omega)) A⟩
    · obtain ⟨f1, f2⟩ := F.2.2.1 k' t' hk' (by omega)
      exact ⟨f1.other W (Or.inr (Jvm.RoadKit.slot_ne (laidA hw hk') (laidA hw hk) (nm_aa hk' hk e) (pfA hk') (pfA hk))), arrAt_fr (wr_ne W (by omega)) f2⟩
  · exact (F.2.2.2 k' t' hk' (by omega)).other W (Or.inr (Jvm.RoadKit.slot_ne (laidA hw hk') (laidA hw hk) (nm_aa hk' hk (by omega)) (pfA hk') (pfA hk)))
theorem Rep.addA {h1 h2 : Heap} (hw : ∀ d ∈ tables_1, d.before a0 Z = true) (R : Rep Z n0 h (top, (a, k, ob) :: H)) (E : Ext h h1) (s1 : h1.size = top + 1) (htop : top = a + 1 + k) (hk : K.2.2[k]? = some t) (A : ArrAt Z h1 top t.2.1 t.2.2 (el t.2.1 ob k)) (W : Wr h1 h2 a (Jvm.RoadKit.slotOf Z K.1 t.1 (aD t.2.1)) (.ref top)) : Rep Z n0 h2 (top + 1, (a, k + 1, ob) :: H) := by
  obtain ⟨q1, q2, q3⟩ := R.objs
  have hp := List.pairwise_cons.mp R.2.2.2
  have hO : ObjAt Z h2 a (k + 1) ob := by
    subst htop
    exact (q3.ext E).addA hw hk A W
  refine ⟨W.size.trans s1, (R.2.1.ext E).wr W q1, List.forall_mem_cons.mpr ⟨⟨q1, ?_, hO⟩, fun x hx => ?_⟩, List.pairwise_cons.mpr ⟨fun y hy => ?_, hp.2⟩⟩
  · show a + (k + 1) < top + 1; omega
  · obtain ⟨p1, p2, p3⟩ := R.2.2.1 x (List.mem_cons_of_mem _ hx)
    have u1 : a + k < x.1 ∨ x.1 + x.2.1 < a := hp.1 x hx
    have u2 : x.1 + x.2.1 < top := p2
    exact ⟨p1, Nat.lt_succ_of_lt u2, (p3.ext E).frame fun b h1 h2 => wr_ne W (by omega)⟩
  · have u1 : a + k < y.1 ∨ y.1 + y.2.1 < a := hp.1 y hy
    have u2 : y.1 + y.2.1 < top := (R.2.2.1 y (List.mem_cons_of_mem _ hy)).2.1
    show a + (k + 1) < y.1 ∨ y.1 + y.2.1 < a
    omega
theorem arr_new {cA : ClassId} {ty : FieldType} {len : Int32} (A : Arr Z h b (newA cA ty len) ty) (hts : ty = .int ∨ ty = .boolean ∨ ty = .long) (hz : (∀ i, ob.2.1 k i = 0) ∧ (∀ i, ob.2.2 k i = 0)) : ArrAt Z h b ty len (el ty ob k) := by
  refine ⟨_, A, sz_new _ _ _, fun i h0 h1 => ?_⟩
  have hi : ¬ (i < 0 ∨ len.toNatClampNeg ≤ i.toNatClampNeg) := by
    have e0 : (0 : Int32).toInt = 0 := rfl
    simp only [Int32.lt_iff_toInt_lt, Int32.toNatClampNeg] at *
    omega
  rw [get_new hi]
  rcases hts with rfl | rfl | rfl
  · show some (Value.int 0) = some (Value.int (ob.2.1 k i)); rw [hz.1]
  · show some (Value.int 0) = some (Value.int (ob.2.1 k i)); rw [hz.1]
  · show some (Value.long 0) = some (Value.long (ob.2.2 k i)); rw [hz.2]
theorem Rep.start (s : State) : Rep s s.heap.size s.heap (s.heap.size, []) := ⟨rfl, Old.start s, fun x hx => (by cases hx), List.Pairwise.nil⟩
end Facts
/- bodies, decode facts, patterns of local variables -/
abbrev Bdy : Type := MethodName × ByteArray × Nat × Option FieldType × Room
def DAt (M : Bdy) (pc : Nat) (i : Instr) (n q : Nat) : Prop := decode M.2.1 pc = .ok (i, n) ∧ q = pc + n
abbrev Pat : Type := List (Option Slot)
abbrev vi (x : Int32) : Option Slot := some (.val (.int x))
abbrev vl (x : Int64) : Option Slot := some (.val (.long x))
abbrev vr (a : Nat) : Option Slot := some (.val (.ref a))
abbrev v2 : Option Slot := some .second
abbrev vn : Option Slot := none
def pget : Pat → Nat → Option Slot
  | [], _ => none
  | x :: _, 0 => x
  | _ :: l, n + 1 => pget l n
theorem pget_eq : ∀ (P : Pat) (i : Nat), pget P i = (P[i]?).join
  | [], _ => by simp [pget]
  | x :: l, 0 => by simp [pget]
  | x :: l, n + 1 => by simp [pget, pget_eq l n]
def pput : Pat → Nat → Option Slot → Pat
  | [], _, _ => []
  | _ :: l, 0, y => y :: l
  | x :: l, n + 1, y => x :: pput l n y
theorem pget_pput : ∀ (P : Pat) (i j : Nat) (y : Option Slot) (s : Slot), pget (pput P i y) j = some s → (j = i ∧ y = some s) ∨ (j ≠ i ∧ pget P j = some s)
  | [], _, _, _, _, h => by simp [pput, pget] at h
  | x :: l, 0, 0, y, s, h => Or.inl ⟨rfl, h⟩
  | x :: l, 0, j + 1, y, s, h => Or.inr ⟨by omega, h⟩
  | x :: l, i + 1, 0, y, s, h => Or.inr ⟨by omega, h⟩
  | x :: l, i + 1, j + 1, y, s, h => by
    rcases pget_pput l i j y s h with ⟨e, r⟩ | ⟨e, r⟩
    · exact Or.inl ⟨by omega, r⟩
    · exact Or.inr ⟨by omega, r⟩
/-- a two-word value whose first word is at i is forgotten -/
def pk1 (P : Pat) (i : Nat) : Pat := match pget P i with
  | some (.val (.long _)) => pput P i none
  | some (.val (.double _)) => pput P i none
  | _ => P
def pk2 (P : Pat) (i : Nat) : Pat := match pget P i with
  | some .second => pput P i none
  | _ => P
def pkp (P : Pat) : Nat → Pat
  | 0 => P
  | i + 1 => pk1 P i
def ps1 (P : Pat) (i : Nat) (v : Value) : Pat := pput (pk2 (pkp P i) (i + 1)) i (some (.val v))
def ps2 (P : Pat) (i : Nat) (v : Value) : Pat := pput (pput (pk2 (pkp P i) (i + 2)) i (some (.val v))) (i + 1) (some .second)
def WFl (L : Array Slot) : Prop := (∀ i : Nat, L[i]? = some .second → ∃ (j : Nat) (v : Value), i = j + 1 ∧ L[j]? = some (.val v) ∧ v.category = 2) ∧ (∀ (i : Nat) (v : Value), L[i]? = some (.val v) → v.category = 2 → L[i + 1]? = some .second)
def Fits (P : Pat) (L : Array Slot) : Prop := (∀ i s, pget P i = some s → L[i]? = some s) ∧ WFl L
theorem pk1_sub {P : Pat} {i j : Nat} {s : Slot} (h : pget (pk1 P i) j = some s) : pget P j = some s ∧ (j = i → ∀ w : Value, s = .val w → w.category = 1) := by
  unfold pk1 at h
  split at h
  · rcases pget_pput _ _ _ _ _ h with ⟨-, e⟩ | ⟨e, r⟩
    · cases e
    · exact ⟨r, fun q => absurd q e⟩
  · rcases pget_pput _ _ _ _ _ h with ⟨-, e⟩ | ⟨e, r⟩
    · cases e
    · exact ⟨r, fun q => absurd q e⟩
  · rename_i h1 h2
    refine ⟨h, fun q w e => ?_⟩
    subst q e
    cases w <;> first | rfl | exact absurd h (h1 _) | exact absurd h (h2 _)
theorem pk2_sub {P : Pat} {i j : Nat} {s : Slot} (h : pget (pk2 P i) j = some s) : pget P j = some s ∧ (j = i → s ≠ .second) := by
  unfold pk2 at h
  split at h
  · rcases pget_pput _ _ _ _ _ h with ⟨-, e⟩ | ⟨e, r⟩
    · cases e
    · exact ⟨r, fun q => absurd q e⟩
  · rename_i h1
    refine ⟨h, fun q e => ?_⟩
    subst q e; exact h1 h
theorem pkp_sub {P : Pat} {i j : Nat} {s : Slot} (h : pget (pkp P i) j = some s) : pget P j = some s ∧ (j + 1 = i → ∀ w : Value, s = .val w → w.category = 1) := by
  cases i with
  | zero => exact ⟨h, fun q => by omega⟩
  | succ i => obtain ⟨h1, h2⟩ := pk1_sub (show pget (pk1 P i) j = some s from h); exact ⟨h1, fun q => h2 (by omega)⟩
theorem setAt_eq {L : Array Slot} {i : Nat} {x : Slot} (hi : i < L.size) : Jvm.setAt L i x = some (L.setIfInBounds i x) := by simp [Jvm.setAt, hi]
theorem sl_second {L : Array Slot} {i : Nat} {v : Value} (ho : L[i]? = some .second) : storeLocals L i v = (Jvm.setAt L (i - 1) .unset).bind fun l => storeSelf l i v := by
  unfold storeLocals; rw [ho]; rfl
theorem sl_unset {L : Array Slot} {i : Nat} {v : Value} (ho : L[i]? = some .unset) : storeLocals L i v = storeSelf L i v := by
  unfold storeLocals; rw [ho]; rfl
theorem sl_val {L : Array Slot} {i : Nat} {v o : Value} (ho : L[i]? = some (.val o)) : storeLocals L i v = if o.category = 2 then (Jvm.setAt L (i + 1) .unset).bind fun l => storeSelf l i v else storeSelf L i v := by
  unfold storeLocals; rw [ho]; rfl
theorem ss_one {L : Array Slot} {i : Nat} {v : Value} (hi : i < L.size) (hv : ¬ v.category = 2) : storeSelf L i v = some (L.setIfInBounds i (.val v)) := by
  unfold storeSelf; rw [setAt_eq hi]; simp [hv]
theorem ss_two {L : Array Slot} {i : Nat} {v : Value} {o : Slot} (hi : i < L.size) (hv : v.category = 2) (ho : L[i + 1]? = some o) : storeSelf L i v = (match o with
    | .val old => if old.category = 2 then (Jvm.setAt (L.setIfInBounds i (.val v)) (i + 2) .unset).bind fun l => Jvm.setAt l (i + 1) .second else Jvm.setAt (L.setIfInBounds i (.val v)) (i + 1) .second
    | _ => Jvm.setAt (L.setIfInBounds i (.val v)) (i + 1) .second) := by
  have e : (L.setIfInBounds i (.val v))[i + 1]? = some o := by rw [Array.getElem?_setIfInBounds_ne (by omega)]; exact ho
  unfold storeSelf; rw [setAt_eq hi]
  show (if v.category = 2 then _ else _) = _
  rw [if_pos hv, e]
  cases o <;> rfl
theorem cat12 (v : Value) : v.category = 1 ∨ v.category = 2 := by cases v <;> first | exact Or.inl rfl | exact Or.inr rfl
/-- a one-word store: what stands elsewhere stays, but for the halves of a two-word value that it breaks -/
theorem store_one {L : Array Slot} {i : Nat} {v : Value} (hW : WFl L) (hi : i < L.size) (hv : v.category = 1) :
    ∃ L', storeLocals L i v = some L' ∧ L'.size = L.size ∧ WFl L' ∧ L'[i]? = some (.val v) ∧ ∀ j, j ≠ i → L'[j]? = L[j]? ∨ (j + 1 = i ∧ L[i]? = some .second) ∨ (j = i + 1 ∧ L[j]? = some .second) := by
  have hv2 : ¬ v.category = 2 := by omega
  cases ho : L[i]? with
  | none => rw [Array.getElem?_eq_none_iff] at ho; omega
  | some o =>
    cases o with
    | unset =>
      refine ⟨L.setIfInBounds i (.val v), ?_, by simp, ?_, by simp [hi], fun j hj => Or.inl (Array.getElem?_setIfInBounds_ne (Ne.symm hj))⟩
      · rw [sl_unset ho, ss_one hi hv2]
      · refine ⟨fun j hj => ?_, fun j w hj hw => ?_⟩
        · by_cases e : j = i
          · subst e; simp [hi] at hj
          · rw [Array.getElem?_setIfInBounds_ne (Ne.symm e)] at hj
            obtain ⟨j', w, e1, e2, e3⟩ := hW.1 j hj
            refine ⟨j', w, e1, ?_, e3⟩
            rw [Array.getElem?_setIfInBounds_ne]; exact e2
            intro q; subst q; rw [ho] at e2; cases e2
        · by_cases e : j = i
          · subst e; simp [hi] at hj; subst hj; omega
          · rw [Array.getElem?_setIfInBounds_ne (Ne.symm e)] at hj
            have := hW.2 j w hj hw
            rw [Array.getElem?_setIfInBounds_ne]; exact this
            intro q; subst q; rw [ho] at this; cases this
    | second =>
      obtain ⟨j0, w0, rfl, f2, f3⟩ := hW.1 i ho
      have hj0 : j0 < L.size := by omega
      refine ⟨(L.setIfInBounds j0 .unset).setIfInBounds (j0 + 1) (.val v), ?_, by simp, ?_, by simp [hi], fun j hj => ?_⟩
      · rw [sl_second ho, show j0 + 1 - 1 = j0 from rfl, setAt_eq hj0]; exact ss_one (by simpa using hi) hv2
      · refine ⟨fun j hj => ?_, fun j w hj hw => ?_⟩
        · by_cases e : j = j0 + 1
          · subst e; simp [hi] at hj
          · rw [Array.getElem?_setIfInBounds_ne (Ne.symm e)] at hj
            by_cases e' : j = j0
            · subst e'; simp [hj0] at hj
            · rw [Array.getElem?_setIfInBounds_ne (Ne.symm e')] at hj
              obtain ⟨j', w, e1, e2, e3⟩ := hW.1 j hj
              refine ⟨j', w, e1, ?_, e3⟩
              rw [Array.getElem?_setIfInBounds_ne, Array.getElem?_setIfInBounds_ne]
              · exact e2
              · intro q; subst q; omega
              · intro q; subst q; rw [ho] at e2; cases e2
        · by_cases e : j = j0 + 1
          · subst e; simp [hi] at hj; subst hj; omega
          · rw [Array.getElem?_setIfInBounds_ne (Ne.symm e)] at hj
            by_cases e' : j = j0
            · subst e'; simp [hj0] at hj
            · rw [Array.getElem?_setIfInBounds_ne (Ne.symm e')] at hj
              have := hW.2 j w hj hw
              rw [Array.getElem?_setIfInBounds_ne, Array.getElem?_setIfInBounds_ne]
              · exact this
              · intro q; subst q; rw [f2] at this; cases this
              · omega
      · by_cases e' : j = j0
        · exact Or.inr (Or.inl ⟨by omega, rfl⟩)
        · left; rw [Array.getElem?_setIfInBounds_ne (Ne.symm hj), Array.getElem?_setIfInBounds_ne (Ne.symm e')]
    | val old =>
      by_cases hc : old.category = 2
      · have f2 := hW.2 i old ho hc
        have hi1 : i + 1 < L.size := (Array.getElem?_eq_some_iff.mp f2).1
        refine ⟨(L.setIfInBounds (i + 1) .unset).setIfInBounds i (.val v), ?_, by simp, ?_, by simp [hi], fun j hj => ?_⟩
        · rw [sl_val ho, if_pos hc, setAt_eq hi1]; exact ss_one (by simpa using hi) hv2
        · refine ⟨fun j hj => ?_, fun j w hj hw => ?_⟩
          · by_cases e : j = i
            · subst e; simp [hi] at hj
            · rw [Array.getElem?_setIfInBounds_ne (Ne.symm e)] at hj
              by_cases e' : j = i + 1
              · subst e'; simp [hi1] at hj
              · rw [Array.getElem?_setIfInBounds_ne (Ne.symm e')] at hj
                obtain ⟨j', w, e1, e2, e3⟩ := hW.1 j hj
                refine ⟨j', w, e1, ?_, e3⟩
                rw [Array.getElem?_setIfInBounds_ne, Array.getElem?_setIfInBounds_ne]
                · exact e2
                · intro q; subst q; rw [f2] at e2; cases e2
                · omega
          · by_cases e : j = i
            · subst e; simp [hi] at hj; subst hj; omega
            · rw [Array.getElem?_setIfInBounds_ne (Ne.symm e)] at hj
              by_cases e' : j = i + 1
              · subst e'; simp [hi1] at hj
              · rw [Array.getElem?_setIfInBounds_ne (Ne.symm e')] at hj
                have := hW.2 j w hj hw
                rw [Array.getElem?_setIfInBounds_ne, Array.getElem?_setIfInBounds_ne]
                · exact this
                · omega
                · intro q; subst q; rw [ho] at this; cases this
        · by_cases e' : j = i + 1
          · subst e'; exact Or.inr (Or.inr ⟨rfl, f2⟩)
          · left; rw [Array.getElem?_setIfInBounds_ne (Ne.symm hj), Array.getElem?_setIfInBounds_ne (Ne.symm e')]
      · refine ⟨L.setIfInBounds i (.val v), ?_, by simp, ?_, by simp [hi], fun j hj => Or.inl (Array.getElem?_setIfInBounds_ne (Ne.symm hj))⟩
        · rw [sl_val ho, if_neg hc, ss_one hi hv2]
        · refine ⟨fun j hj => ?_, fun j w hj hw => ?_⟩
          · by_cases e : j = i
            · subst e; simp [hi] at hj
            · rw [Array.getElem?_setIfInBounds_ne (Ne.symm e)] at hj
              obtain ⟨j', w, e1, e2, e3⟩ := hW.1 j hj
              refine ⟨j', w, e1, ?_, e3⟩
              rw [Array.getElem?_setIfInBounds_ne]; exact e2
              intro q; subst q; rw [ho] at e2; cases e2; omega
          · by_cases e : j = i
            · subst e; simp [hi] at hj; subst hj; omega
            · rw [Array.getElem?_setIfInBounds_ne (Ne.symm e)] at hj
              have := hW.2 j w hj hw
              rw [Array.getElem?_setIfInBounds_ne]; exact this
              intro q; subst q; rw [ho] at this; cases this
theorem Fits.store1 {P : Pat} {L : Array Slot} {i : Nat} {v : Value} (h : Fits P L) (hi : i < L.size) (hv : v.category = 1) :
    ∃ L', storeLocals L i v = some L' ∧ L'.size = L.size ∧ Fits (ps1 P i v) L' := by
  obtain ⟨L', e1, e2, e3, e4, e5⟩ := store_one h.2 hi hv
  refine ⟨L', e1, e2, fun j s hj => ?_, e3⟩
  rcases pget_pput _ _ _ _ _ hj with ⟨rfl, q⟩ | ⟨ne, q⟩
  · rw [e4]; exact q
  · obtain ⟨q1, q2⟩ := pk2_sub q
    obtain ⟨q3, q4⟩ := pkp_sub q1
    have hL := h.1 j s q3
    rcases e5 j ne with r | ⟨r1, r2⟩ | ⟨r1, r2⟩
    · rw [r]; exact hL
    · obtain ⟨j', w, z1, z2, z3⟩ := h.2.1 i r2
      have : j' = j := by omega
      subst this
      rw [hL] at z2; cases z2
      have := q4 r1 w rfl; omega
    · rw [hL] at r2; cases r2
      exact absurd rfl (q2 r1)
theorem st_ph1 {L : Array Slot} {i : Nat} {v : Value} (hW : WFl L) (hi : i + 1 < L.size) :
    ∃ A : Array Slot, storeLocals L i v = storeSelf A i v ∧ A.size = L.size ∧ (∀ j, j ≠ i → j ≠ i + 1 → A[j]? = L[j]? ∨ (j + 1 = i ∧ L[i]? = some .second ∧ A[j]? = some .unset)) ∧ (A[i + 1]? = L[i + 1]? ∨ (A[i + 1]? = some .unset ∧ L[i + 1]? = some .second)) ∧ (L[i]? = some .second → ∀ j, j + 1 = i → A[j]? = some .unset) := by
  have hi0 : i < L.size := by omega
  cases ho : L[i]? with
  | none => rw [Array.getElem?_eq_none_iff] at ho; omega
  | some o =>
    cases o with
    | unset => exact ⟨L, sl_unset ho, rfl, fun j _ _ => Or.inl rfl, Or.inl rfl, fun q => by cases q⟩
    | second =>
      obtain ⟨j0, w0, rfl, f2, f3⟩ := hW.1 i ho
      have hj0 : j0 < L.size := by omega
      refine ⟨L.setIfInBounds j0 .unset, by rw [sl_second ho, show j0 + 1 - 1 = j0 from rfl, setAt_eq hj0]; rfl, by simp, fun j h1 h2 => ?_, Or.inl (Array.getElem?_setIfInBounds_ne (by omega)), fun _ j hj => ?_⟩
      · by_cases e : j = j0
        · subst e; exact Or.inr ⟨rfl, rfl, by simp [hj0]⟩
        · exact Or.inl (Array.getElem?_setIfInBounds_ne (Ne.symm e))
      · have : j = j0 := by omega
        subst this; simp [hj0]
    | val old =>
      by_cases hc : old.category = 2
      · refine ⟨L.setIfInBounds (i + 1) .unset, by rw [sl_val ho, if_pos hc, setAt_eq hi]; rfl, by simp, fun j h1 h2 => Or.inl (Array.getElem?_setIfInBounds_ne (Ne.symm h2)), Or.inr ⟨by simp [hi], hW.2 i old ho hc⟩, fun q => by cases q⟩
      · exact ⟨L, by rw [sl_val ho, if_neg hc], rfl, fun j _ _ => Or.inl rfl, Or.inl rfl, fun q => by cases q⟩
theorem st_ph2 {A : Array Slot} {i : Nat} {v : Value} (hi : i + 1 < A.size) (hv : v.category = 2) (hn : ∀ w : Value, A[i + 1]? = some (.val w) → w.category = 2 → i + 2 < A.size) :
    ∃ L', storeSelf A i v = some L' ∧ L'.size = A.size ∧ L'[i]? = some (.val v) ∧ L'[i + 1]? = some .second ∧ (∀ j, j ≠ i → j ≠ i + 1 → L'[j]? = A[j]? ∨ (j = i + 2 ∧ L'[j]? = some .unset ∧ ∃ w : Value, A[i + 1]? = some (.val w) ∧ w.category = 2)) ∧ ((∃ w : Value, A[i + 1]? = some (.val w) ∧ w.category = 2) → L'[i + 2]? = some .unset) := by
  have hi0 : i < A.size := by omega
  have eB : (A.setIfInBounds i (.val v))[i + 1]? = A[i + 1]? := Array.getElem?_setIfInBounds_ne (by omega)
  have plain : (∀ w : Value, A[i + 1]? = some (.val w) → w.category ≠ 2) → storeSelf A i v = some ((A.setIfInBounds i (.val v)).setIfInBounds (i + 1) .second) := fun hq => by
    cases ho : A[i + 1]? with
    | none => rw [Array.getElem?_eq_none_iff] at ho; omega
    | some o => cases o with
      | unset => rw [ss_two hi0 hv ho]; exact setAt_eq (by simpa using hi)
      | second => rw [ss_two hi0 hv ho]; exact setAt_eq (by simpa using hi)
      | val w => have := hq w ho; rw [ss_two hi0 hv ho]; simp only [if_neg this]; exact setAt_eq (by simpa using hi)
  by_cases hw : ∃ w : Value, A[i + 1]? = some (.val w) ∧ w.category = 2
  · obtain ⟨w, h1, h2⟩ := hw
    have h3 := hn w h1 h2
    refine ⟨((A.setIfInBounds i (.val v)).setIfInBounds (i + 2) .unset).setIfInBounds (i + 1) .second, by rw [ss_two hi0 hv h1]; simp only [if_pos h2]; rw [setAt_eq (by simpa using h3)]; exact setAt_eq (by simpa using hi), by simp, ?_, by simp [hi], fun j a b => ?_, fun _ => ?_⟩
    · rw [Array.getElem?_setIfInBounds_ne (by omega), Array.getElem?_setIfInBounds_ne (by omega)]; simp [hi0]
    · rw [Array.getElem?_setIfInBounds_ne (by omega)]
      by_cases e : j = i + 2
      · subst e; exact Or.inr ⟨rfl, by simp [h3], w, h1, h2⟩
      · left; rw [Array.getElem?_setIfInBounds_ne (by omega), Array.getElem?_setIfInBounds_ne (by omega)]
    · rw [Array.getElem?_setIfInBounds_ne (by omega)]; simp [h3]
  · refine ⟨_, plain fun w h1 h2 => hw ⟨w, h1, h2⟩, by simp, ?_, by simp [hi], fun j a b => Or.inl ?_, fun q => absurd q hw⟩
    · rw [Array.getElem?_setIfInBounds_ne (by omega)]; simp [hi0]
    · rw [Array.getElem?_setIfInBounds_ne (by omega), Array.getElem?_setIfInBounds_ne (by omega)]
theorem store_two {L : Array Slot} {i : Nat} {v : Value} (hW : WFl L) (hi : i + 1 < L.size) (hv : v.category = 2) :
    ∃ L', storeLocals L i v = some L' ∧ L'.size = L.size ∧ WFl L' ∧ L'[i]? = some (.val v) ∧ L'[i + 1]? = some .second ∧ ∀ j, j ≠ i → j ≠ i + 1 → L'[j]? = L[j]? ∨ (j + 1 = i ∧ L[i]? = some .second) ∨ (j = i + 2 ∧ L[j]? = some .second) := by
  obtain ⟨A, a1, a2, a3, a4, a5⟩ := st_ph1 (v := v) hW hi
  have a6 : ∀ w : Value, A[i + 1]? = some (.val w) → w.category = 2 → L[i + 2]? = some .second := fun w h1 h2 => by
    rcases a4 with e | ⟨e, -⟩
    · rw [e] at h1; exact hW.2 _ _ h1 h2
    · rw [e] at h1; cases h1
  obtain ⟨L', b1, b2, b3, b4, b5, b6⟩ := st_ph2 (A := A) (i := i) (v := v) (by omega) hv (fun w h1 h2 => by have := (Array.getElem?_eq_some_iff.mp (a6 w h1 h2)).1; omega)
  have c : ∀ j, j ≠ i → j ≠ i + 1 → L'[j]? = L[j]? ∨ (j + 1 = i ∧ L[i]? = some .second ∧ L'[j]? = some .unset) ∨ (j = i + 2 ∧ L[j]? = some .second ∧ L'[j]? = some .unset) := fun j h1 h2 => by
    rcases b5 j h1 h2 with e | ⟨e1, e2, w, e3, e4⟩
    · rcases a3 j h1 h2 with r | ⟨r1, r2, r3⟩
      · exact Or.inl (e.trans r)
      · exact Or.inr (Or.inl ⟨r1, r2, e.trans r3⟩)
    · subst e1; exact Or.inr (Or.inr ⟨rfl, a6 w e3 e4, e2⟩)
  have cs : L[i]? = some .second → ∀ j, j + 1 = i → L'[j]? = some .unset := fun q j hj => by
    rcases b5 j (by omega) (by omega) with e | ⟨e1, -⟩
    · exact e.trans (a5 q j hj)
    · omega
  have c2 : L[i + 2]? = some .second → L'[i + 2]? = some .unset := fun q => by
    obtain ⟨j', w, z1, z2, z3⟩ := hW.1 _ q
    have : j' = i + 1 := by omega
    subst this
    rcases a4 with e | ⟨-, e⟩
    · exact b6 ⟨w, e.trans z2, z3⟩
    · rw [e] at z2; cases z2
  refine ⟨L', a1.trans b1, b2.trans a2, ⟨fun j hj => ?_, fun j w hj hw => ?_⟩, b3, b4, fun j h1 h2 => ?_⟩
  · by_cases e0 : j = i
    · subst e0; rw [b3] at hj; cases hj
    by_cases e1 : j = i + 1
    · exact ⟨i, v, e1, b3, hv⟩
    rcases c j e0 e1 with r | ⟨-, -, r⟩ | ⟨-, -, r⟩
    · rw [r] at hj
      obtain ⟨j', w, z1, z2, z3⟩ := hW.1 j hj
      refine ⟨j', w, z1, ?_, z3⟩
      have n0 : j' ≠ i := by omega
      by_cases n1 : j' = i + 1
      · have : j = i + 2 := by omega
        subst this
        rw [c2 hj] at r; rw [hj] at r; cases r
      rcases c j' n0 n1 with u | ⟨u, -, -⟩ | ⟨-, u, -⟩
      · exact u.trans z2
      · omega
      · rw [z2] at u; cases u
    · rw [r] at hj; cases hj
    · rw [r] at hj; cases hj
  · by_cases e0 : j = i
    · subst e0; exact b4
    by_cases e1 : j = i + 1
    · subst e1; rw [b4] at hj; cases hj
    rcases c j e0 e1 with r | ⟨-, -, r⟩ | ⟨-, -, r⟩
    · have hj' := hj
      rw [r] at hj
      have z := hW.2 j w hj hw
      by_cases n0 : j + 1 = i
      · subst n0; rw [cs z j rfl] at hj'; cases hj'
      by_cases n1 : j + 1 = i + 1
      · omega
      rcases c (j + 1) n0 n1 with u | ⟨u1, u2, -⟩ | ⟨u, -, -⟩
      · exact u.trans z
      · obtain ⟨j', w', y1, y2, y3⟩ := hW.1 i u2
        have : j' = j + 1 := by omega
        subst this; rw [z] at y2; cases y2
      · omega
    · rw [r] at hj; cases hj
    · rw [r] at hj; cases hj
  · rcases c j h1 h2 with r | ⟨r1, r2, -⟩ | ⟨r1, r2, -⟩
    · exact Or.inl r
    · exact Or.inr (Or.inl ⟨r1, r2⟩)
    · exact Or.inr (Or.inr ⟨r1, r2⟩)
theorem Fits.store2 {P : Pat} {L : Array Slot} {i : Nat} {v : Value} (h : Fits P L) (hi : i + 1 < L.size) (hv : v.category = 2) :
    ∃ L', storeLocals L i v = some L' ∧ L'.size = L.size ∧ Fits (ps2 P i v) L' := by
  obtain ⟨L', e1, e2, e3, e4, e4', e5⟩ := store_two h.2 hi hv
  refine ⟨L', e1, e2, fun j s hj => ?_, e3⟩
  rcases pget_pput _ _ _ _ _ hj with ⟨rfl, q⟩ | ⟨ne, q⟩
  · rw [e4']; exact q
  rcases pget_pput _ _ _ _ _ q with ⟨rfl, q'⟩ | ⟨ne', q'⟩
  · rw [e4]; exact q'
  obtain ⟨q1, q2⟩ := pk2_sub q'
  obtain ⟨q3, q4⟩ := pkp_sub q1
  have hL := h.1 j s q3
  rcases e5 j ne' ne with r | ⟨r1, r2⟩ | ⟨r1, r2⟩
  · rw [r]; exact hL
  · obtain ⟨j', w, z1, z2, z3⟩ := h.2.1 i r2
    have : j' = j := by omega
    subst this
    rw [hL] at z2; cases z2
    have := q4 r1 w rfl; omega
  · rw [hL] at r2; cases r2
    exact absurd rfl (q2 r1)
/- what a body does from a place on -/
def Runs (C : Ctx) (M : Bdy) (k n pc : Nat) (P : Pat) (S : List Value) (G : AH) (Q : Option Value → AH → Prop) : Prop :=
  Ok C → ∀ (p : Program) (e : Env) (s : State) (m : MethodId) (args : Array Value) (below : List Frame) (meth : Method) (c : Code) (T : State) (locs : List Loc) (L : Array Slot),
    p.tables.exec = Jvm.exec → c.code = M.2.1 → c.maxLocals = M.2.2.1 → meth.sig.returnType = M.2.2.2.1 → meth.name = M.1.name → s.vm.findClass M.1.cls = some m.cls → C.2.1.Warmed39 s.vm →
    Fits P L → L.size = M.2.2.1 → Stand p C.1 e M.2.2.2.2 s m args below meth c T locs k n → Rep C.2.1 C.2.2.1 T.heap G → Fr C.2.2.1 locs →
    ∃ (T' : State) (locs' : List Loc) (k' n' : Nat) (r : Option Value) (G' : AH), Stand p C.1 e M.2.2.2.2 s m args below meth c T' locs' k' n' ∧ k' ≤ M.2.2.2.2.cells ∧ n' ≤ M.2.2.2.2.slots ∧ Rep C.2.1 C.2.2.1 T'.heap G' ∧ Fr C.2.2.1 locs' ∧ Q r G' ∧
      (M.2.2.2.1 = none → r = none) ∧
      ∀ fs : List Frame, (∀ (f : JFrame) (acts : List Action), f.method = m → f.locked = none → f.entered = [] → (doReturn e (T'.setTop f) acts r).1 = T'.setFrames fs) → Steps p.tables e below (T.setTop (mkF m pc L S)) (T'.setFrames fs)
section Rules
variable {C : Ctx} {M : Bdy} {k n pc q : Nat} {P P' : Pat} {S S' : List Value} {G : AH} {Q : Option Value → AH → Prop}
/-- a step that leaves the heap alone -/
theorem Runs.pure {i : Instr} {len : Nat} (d : DAt M pc i len q) {pc' : Nat}
    (st : ∀ (p : Program) (e : Env) (s : State) (m : MethodId) (args : Array Value) (below : List Frame) (meth : Method) (c : Code) (T : State) (locs : List Loc) (L : Array Slot), Ok C → p.tables.exec = Jvm.exec → s.vm.findClass M.1.cls = some m.cls → C.2.1.Warmed39 s.vm → decode c.code pc = .ok (i, len) → Fits P L → L.size = M.2.2.1 → Rep C.2.1 C.2.2.1 T.heap G →
      Stand p C.1 e M.2.2.2.2 s m args below meth c T locs k n → ∃ L', Fits P' L' ∧ L'.size = M.2.2.1 ∧ ∀ t, Steps p.tables e below (T.setTop (mkF m pc' L' S')) t → Steps p.tables e below (T.setTop (mkF m pc L S)) t)
    (h : Runs C M k n pc' P' S' G Q) : Runs C M k n pc P S G Q := by
  intro hw p e s m args below meth c T locs L hx hby hml hret hnm hown hZ hP hsz X hR hF
  obtain ⟨L', f1, f2, f3⟩ := st p e s m args below meth c T locs L hw hx hown hZ (hb hby d.1) hP hsz hR X
  obtain ⟨T', locs', k', n', r, G', g1, g2, g3, g4, g5, g6, g7, g8⟩ := h hw p e s m args below meth c T locs L' hx hby hml hret hnm hown hZ f1 f2 X hR hF
  exact ⟨T', locs', k', n', r, G', g1, g2, g3, g4, g5, g6, g7, fun fs hr => f3 _ (g8 fs hr)⟩
/-- a step that keeps the locals and what the heap says -/
theorem Runs.stk {i : Instr} {len : Nat} (d : DAt M pc i len q)
    (st : ∀ (p : Program) (e : Env) (s : State) (m : MethodId) (args : Array Value) (below : List Frame) (meth : Method) (c : Code) (T : State) (locs : List Loc) (L : Array Slot), p.tables.exec = Jvm.exec → decode c.code pc = .ok (i, len) → Fits P L →
      Stand p C.1 e M.2.2.2.2 s m args below meth c T locs k n → ∀ t, Steps p.tables e below (T.setTop (mkF m (pc + len) L S')) t → Steps p.tables e below (T.setTop (mkF m pc L S)) t)
    (h : Runs C M k n q P S' G Q) : Runs C M k n pc P S G Q := by
  have hq := d.2
  subst hq
  exact Runs.pure d (fun p e s m args below meth c T locs L _ hx _ _ hd hP hsz _ X => ⟨L, hP, hsz, st p e s m args below meth c T locs L hx hd hP X⟩) h
theorem Runs.iloadN {j : Fin 4} {v : Int32} (d : DAt M pc (.iload_n j) 1 q) (hl : pget P j.val = vi v) (h : Runs C M k n q P (.int v :: S) G Q) : Runs C M k n pc P S G Q :=
  Runs.stk d (fun p e s m args below meth c T locs L hx hd hP X t r => XS.iloadN (g := mkF m pc L S) X.here hx rfl hd (hP.1 _ _ hl) r) h
theorem Runs.iload {j : Nat} {v : Int32} (d : DAt M pc (.iload j) 2 q) (hl : pget P j = vi v) (h : Runs C M k n q P (.int v :: S) G Q) : Runs C M k n pc P S G Q :=
  Runs.stk d (fun p e s m args below meth c T locs L hx hd hP X t r => XS.iload (g := mkF m pc L S) X.here hx rfl hd (hP.1 _ _ hl) r) h
theorem Runs.lloadN {j : Fin 4} {v : Int64} (d : DAt M pc (.lload_n j) 1 q) (hl : pget P j.val = vl v) (h : Runs C M k n q P (.long v :: S) G Q) : Runs C M k n pc P S G Q :=
  Runs.stk d (fun p e s m args below meth c T locs L hx hd hP X t r => XS.lloadN (g := mkF m pc L S) X.here hx rfl hd (hP.1 _ _ hl) r) h
theorem Runs.lload {j : Nat} {v : Int64} (d : DAt M pc (.lload j) 2 q) (hl : pget P j = vl v) (h : Runs C M k n q P (.long v :: S) G Q) : Runs C M k n pc P S G Q :=
  Runs.stk d (fun p e s m args below meth c T locs L hx hd hP X t r => XS.lload (g := mkF m pc L S) X.here hx rfl hd (hP.1 _ _ hl) r) h
theorem Runs.aloadN {j : Fin 4} {v : Nat} (d : DAt M pc (.aload_n j) 1 q) (hl : pget P j.val = vr v) (h : Runs C M k n q P (.ref v :: S) G Q) : Runs C M k n pc P S G Q :=
  Runs.stk d (fun p e s m args below meth c T locs L hx hd hP X t r => XS.aloadN (g := mkF m pc L S) X.here hx rfl hd (hP.1 _ _ hl) rfl r) h
theorem Runs.aload {j : Nat} {v : Nat} (d : DAt M pc (.aload j) 2 q) (hl : pget P j = vr v) (h : Runs C M k n q P (.ref v :: S) G Q) : Runs C M k n pc P S G Q :=
  Runs.stk d (fun p e s m args below meth c T locs L hx hd hP X t r => XS.aload (g := mkF m pc L S) X.here hx rfl hd (hP.1 _ _ hl) rfl r) h
theorem Runs.iconst {i : Int} {v : Int32} (d : DAt M pc (.iconst i) 1 q) (hv : Int32.ofInt i = v) (h : Runs C M k n q P (.int v :: S) G Q) : Runs C M k n pc P S G Q :=
  Runs.stk d (fun p e s m args below meth c T locs L hx hd hP X t r => XS.iconst (g := mkF m pc L S) X.here hx rfl hd (by rw [hv]; exact r)) h
theorem Runs.bipush {i : Int} {v : Int32} (d : DAt M pc (.bipush i) 2 q) (hv : (Int8.ofInt i).toInt32 = v) (h : Runs C M k n q P (.int v :: S) G Q) : Runs C M k n pc P S G Q :=
  Runs.stk d (fun p e s m args below meth c T locs L hx hd hP X t r => XS.bipush (g := mkF m pc L S) X.here hx rfl hd (by rw [hv]; exact r)) h
theorem Runs.sipush {i : Int} {v : Int32} (d : DAt M pc (.sipush i) 3 q) (hv : (Int16.ofInt i).toInt32 = v) (h : Runs C M k n q P (.int v :: S) G Q) : Runs C M k n pc P S G Q :=
  Runs.stk d (fun p e s m args below meth c T locs L hx hd hP X t r => XS.sipush (g := mkF m pc L S) X.here hx rfl hd (by rw [hv]; exact r)) h
theorem Runs.lconst {i : Fin 2} {v : Int64} (d : DAt M pc (.lconst i) 1 q) (hv : Int64.ofNat i = v) (h : Runs C M k n q P (.long v :: S) G Q) : Runs C M k n pc P S G Q :=
  Runs.stk d (fun p e s m args below meth c T locs L hx hd hP X t r => Jvm.Free.XT.lconstV (g := mkF m pc L S) X.here hx rfl v hd hv r) h
theorem Runs.ldc {i : Nat} {v : Int32} (d : DAt M pc (.ldc i) 2 q) (w : Jvm.Cond.constant M.1.cls i v ∈ tables_1) (h : Runs C M k n q P (.int v :: S) G Q) : Runs C M k n pc P S G Q := by
  have hq := d.2
  subst hq
  exact Runs.pure d (fun p e s m args below meth c T locs L hw hx hown hZ hd hP hsz _ X => ⟨L, hP, hsz, fun t r => X.ldcInt hx hown (mvT hZ (hw _ w)) (g := mkF m pc L S) rfl hd t r⟩) h
theorem Runs.ldc2 {i : Nat} {v : Int64} (d : DAt M pc (.ldc2_w i) 3 q) (w : Jvm.Cond.constantLong M.1.cls i v ∈ tables_1) (h : Runs C M k n q P (.long v :: S) G Q) : Runs C M k n pc P S G Q := by
  have hq := d.2
  subst hq
  exact Runs.pure d (fun p e s m args below meth c T locs L hw hx hown hZ hd hP hsz _ X => ⟨L, hP, hsz, fun t r => X.ldc2Long hx hown (mvT hZ (hw _ w)) (g := mkF m pc L S) rfl hd t r⟩) h
theorem Runs.iadd {x y : Int32} (d : DAt M pc .iadd 1 q) (h : Runs C M k n q P (.int (x + y) :: S) G Q) : Runs C M k n pc P (.int y :: .int x :: S) G Q :=
  Runs.stk d (fun p e s m args below meth c T locs L hx hd hP X t r => XS.iadd (g := mkF m pc L (.int y :: .int x :: S)) X.here hx rfl hd rfl r) h
theorem Runs.isub {x y : Int32} (d : DAt M pc .isub 1 q) (h : Runs C M k n q P (.int (x - y) :: S) G Q) : Runs C M k n pc P (.int y :: .int x :: S) G Q :=
  Runs.stk d (fun p e s m args below meth c T locs L hx hd hP X t r => XS.isub (g := mkF m pc L (.int y :: .int x :: S)) X.here hx rfl hd rfl r) h
theorem Runs.imul {x y : Int32} (d : DAt M pc .imul 1 q) (h : Runs C M k n q P (.int (x * y) :: S) G Q) : Runs C M k n pc P (.int y :: .int x :: S) G Q :=
  Runs.stk d (fun p e s m args below meth c T locs L hx hd hP X t r => XS.imul (g := mkF m pc L (.int y :: .int x :: S)) X.here hx rfl hd rfl r) h
theorem Runs.iand {x y : Int32} (d : DAt M pc .iand 1 q) (h : Runs C M k n q P (.int (x &&& y) :: S) G Q) : Runs C M k n pc P (.int y :: .int x :: S) G Q :=
  Runs.stk d (fun p e s m args below meth c T locs L hx hd hP X t r => XS.iand (g := mkF m pc L (.int y :: .int x :: S)) X.here hx rfl hd rfl r) h
theorem Runs.ior {x y : Int32} (d : DAt M pc .ior 1 q) (h : Runs C M k n q P (.int (x ||| y) :: S) G Q) : Runs C M k n pc P (.int y :: .int x :: S) G Q :=
  Runs.stk d (fun p e s m args below meth c T locs L hx hd hP X t r => XS.ior (g := mkF m pc L (.int y :: .int x :: S)) X.here hx rfl hd rfl r) h
theorem Runs.ixor {x y : Int32} (d : DAt M pc .ixor 1 q) (h : Runs C M k n q P (.int (x ^^^ y) :: S) G Q) : Runs C M k n pc P (.int y :: .int x :: S) G Q :=
  Runs.stk d (fun p e s m args below meth c T locs L hx hd hP X t r => XS.ixor (g := mkF m pc L (.int y :: .int x :: S)) X.here hx rfl hd rfl r) h
theorem Runs.ladd {x y : Int64} (d : DAt M pc .ladd 1 q) (h : Runs C M k n q P (.long (x + y) :: S) G Q) : Runs C M k n pc P (.long y :: .long x :: S) G Q :=
  Runs.stk d (fun p e s m args below meth c T locs L hx hd hP X t r => XS.ladd (g := mkF m pc L (.long y :: .long x :: S)) X.here hx rfl hd rfl r) h
theorem Runs.lsub {x y : Int64} (d : DAt M pc .lsub 1 q) (h : Runs C M k n q P (.long (x - y) :: S) G Q) : Runs C M k n pc P (.long y :: .long x :: S) G Q :=
  Runs.stk d (fun p e s m args below meth c T locs L hx hd hP X t r => XS.lsub (g := mkF m pc L (.long y :: .long x :: S)) X.here hx rfl hd rfl r) h
theorem Runs.lmul {x y : Int64} (d : DAt M pc .lmul 1 q) (h : Runs C M k n q P (.long (x * y) :: S) G Q) : Runs C M k n pc P (.long y :: .long x :: S) G Q :=
  Runs.stk d (fun p e s m args below meth c T locs L hx hd hP X t r => XS.lmul (g := mkF m pc L (.long y :: .long x :: S)) X.here hx rfl hd rfl r) h
theorem Runs.land {x y : Int64} (d : DAt M pc .land 1 q) (h : Runs C M k n q P (.long (x &&& y) :: S) G Q) : Runs C M k n pc P (.long y :: .long x :: S) G Q :=
  Runs.stk d (fun p e s m args below meth c T locs L hx hd hP X t r => XS.land (g := mkF m pc L (.long y :: .long x :: S)) X.here hx rfl hd rfl r) h
theorem Runs.lor {x y : Int64} (d : DAt M pc .lor 1 q) (h : Runs C M k n q P (.long (x ||| y) :: S) G Q) : Runs C M k n pc P (.long y :: .long x :: S) G Q :=
  Runs.stk d (fun p e s m args below meth c T locs L hx hd hP X t r => XS.lor (g := mkF m pc L (.long y :: .long x :: S)) X.here hx rfl hd rfl r) h
theorem Runs.lxor {x y : Int64} (d : DAt M pc .lxor 1 q) (h : Runs C M k n q P (.long (x ^^^ y) :: S) G Q) : Runs C M k n pc P (.long y :: .long x :: S) G Q :=
  Runs.stk d (fun p e s m args below meth c T locs L hx hd hP X t r => XS.lxor (g := mkF m pc L (.long y :: .long x :: S)) X.here hx rfl hd rfl r) h
theorem Runs.ishl {x : Int32} {y : Int32} (d : DAt M pc .ishl 1 q) (h : Runs C M k n q P (.int (x <<< (y &&& 31)) :: S) G Q) : Runs C M k n pc P (.int y :: .int x :: S) G Q :=
  Runs.stk d (fun p e s m args below meth c T locs L hx hd hP X t r => XS.ishl (g := mkF m pc L (.int y :: .int x :: S)) X.here hx rfl hd rfl r) h
theorem Runs.ishr {x : Int32} {y : Int32} (d : DAt M pc .ishr 1 q) (h : Runs C M k n q P (.int (x >>> (y &&& 31)) :: S) G Q) : Runs C M k n pc P (.int y :: .int x :: S) G Q :=
  Runs.stk d (fun p e s m args below meth c T locs L hx hd hP X t r => XS.ishr (g := mkF m pc L (.int y :: .int x :: S)) X.here hx rfl hd rfl r) h
theorem Runs.iushr {x : Int32} {y : Int32} (d : DAt M pc .iushr 1 q) (h : Runs C M k n q P (.int ((x.toUInt32 >>> (y &&& 31).toUInt32).toInt32) :: S) G Q) : Runs C M k n pc P (.int y :: .int x :: S) G Q :=
  Runs.stk d (fun p e s m args below meth c T locs L hx hd hP X t r => XS.iushr (g := mkF m pc L (.int y :: .int x :: S)) X.here hx rfl hd rfl r) h
theorem Runs.lshl {x : Int64} {y : Int32} (d : DAt M pc .lshl 1 q) (h : Runs C M k n q P (.long (x <<< (y &&& 0x3f).toInt64) :: S) G Q) : Runs C M k n pc P (.int y :: .long x :: S) G Q :=
  Runs.stk d (fun p e s m args below meth c T locs L hx hd hP X t r => XS.lshl (g := mkF m pc L (.int y :: .long x :: S)) X.here hx rfl hd rfl r) h
theorem Runs.lshr {x : Int64} {y : Int32} (d : DAt M pc .lshr 1 q) (h : Runs C M k n q P (.long (x >>> (y &&& 0x3f).toInt64) :: S) G Q) : Runs C M k n pc P (.int y :: .long x :: S) G Q :=
  Runs.stk d (fun p e s m args below meth c T locs L hx hd hP X t r => XS.lshr (g := mkF m pc L (.int y :: .long x :: S)) X.here hx rfl hd rfl r) h
theorem Runs.lushr {x : Int64} {y : Int32} (d : DAt M pc .lushr 1 q) (h : Runs C M k n q P (.long ((x.toUInt64 >>> (y &&& 0x3f).toInt64.toUInt64).toInt64) :: S) G Q) : Runs C M k n pc P (.int y :: .long x :: S) G Q :=
  Runs.stk d (fun p e s m args below meth c T locs L hx hd hP X t r => XS.lushr (g := mkF m pc L (.int y :: .long x :: S)) X.here hx rfl hd rfl r) h
theorem Runs.ineg {x : Int32} (d : DAt M pc .ineg 1 q) (h : Runs C M k n q P (.int (-x) :: S) G Q) : Runs C M k n pc P (.int x :: S) G Q :=
  Runs.stk d (fun p e s m args below meth c T locs L hx hd hP X t r => XS.ineg (g := mkF m pc L (.int x :: S)) X.here hx rfl hd rfl r) h
theorem Runs.lneg {x : Int64} (d : DAt M pc .lneg 1 q) (h : Runs C M k n q P (.long (-x) :: S) G Q) : Runs C M k n pc P (.long x :: S) G Q :=
  Runs.stk d (fun p e s m args below meth c T locs L hx hd hP X t r => XS.lneg (g := mkF m pc L (.long x :: S)) X.here hx rfl hd rfl r) h
theorem Runs.i2l {x : Int32} (d : DAt M pc .i2l 1 q) (h : Runs C M k n q P (.long x.toInt64 :: S) G Q) : Runs C M k n pc P (.int x :: S) G Q :=
  Runs.stk d (fun p e s m args below meth c T locs L hx hd hP X t r => XS.i2l (g := mkF m pc L (.int x :: S)) X.here hx rfl hd rfl r) h
theorem Runs.l2i {x : Int64} (d : DAt M pc .l2i 1 q) (h : Runs C M k n q P (.int x.toInt32 :: S) G Q) : Runs C M k n pc P (.long x :: S) G Q :=
  Runs.stk d (fun p e s m args below meth c T locs L hx hd hP X t r => XS.l2i (g := mkF m pc L (.long x :: S)) X.here hx rfl hd rfl r) h
theorem Runs.lcmp {x y : Int64} (d : DAt M pc .lcmp 1 q) (h : Runs C M k n q P (.int (lcmpW x y) :: S) G Q) : Runs C M k n pc P (.long y :: .long x :: S) G Q :=
  Runs.stk d (fun p e s m args below meth c T locs L hx hd hP X t r => XS.lcmp (g := mkF m pc L (.long y :: .long x :: S)) X.here hx rfl hd rfl r) h
theorem Runs.idiv {x y : Int32} (d : DAt M pc .idiv 1 q) (hy : y ≠ 0) (h : Runs C M k n q P (.int (x / y) :: S) G Q) : Runs C M k n pc P (.int y :: .int x :: S) G Q :=
  Runs.stk d (fun p e s m args below meth c T locs L hx hd hP X t r => XS.idiv (g := mkF m pc L (.int y :: .int x :: S)) X.here hx rfl hd rfl hy r) h
theorem Runs.irem {x y : Int32} (d : DAt M pc .irem 1 q) (hy : y ≠ 0) (h : Runs C M k n q P (.int (x % y) :: S) G Q) : Runs C M k n pc P (.int y :: .int x :: S) G Q :=
  Runs.stk d (fun p e s m args below meth c T locs L hx hd hP X t r => iremM (g := mkF m pc L (.int y :: .int x :: S)) X hx rfl hd rfl hy r) h
theorem Runs.dup {x : Value} (d : DAt M pc .dup 1 q) (hc : x.category = 1) (h : Runs C M k n q P (x :: x :: S) G Q) : Runs C M k n pc P (x :: S) G Q :=
  Runs.stk d (fun p e s m args below meth c T locs L hx hd hP X t r => XS.dup (g := mkF m pc L (x :: S)) X.here hx rfl hd rfl hc r) h
theorem Runs.dup2 {x y : Value} (d : DAt M pc .dup2 1 q) (hc : x.category = 1) (hc' : y.category = 1) (h : Runs C M k n q P (x :: y :: x :: y :: S) G Q) : Runs C M k n pc P (x :: y :: S) G Q :=
  Runs.stk d (fun p e s m args below meth c T locs L hx hd hP X t r => Jvm.Free.XT.dup2 (g := mkF m pc L (x :: y :: S)) X.here hx rfl hd rfl hc hc' r) h
theorem Runs.pop {x : Value} (d : DAt M pc .pop 1 q) (hc : x.category = 1) (h : Runs C M k n q P S G Q) : Runs C M k n pc P (x :: S) G Q :=
  Runs.stk d (fun p e s m args below meth c T locs L hx hd hP X t r => XS.pop (g := mkF m pc L (x :: S)) X.here hx rfl hd rfl hc r) h
theorem Runs.goto {o : Int} {pc' : Nat} (d : DAt M pc (.goto o) 3 q) (ho : 0 ≤ (pc : Int) + o ∧ ((pc : Int) + o).toNat = pc') (h : Runs C M k n pc' P S G Q) : Runs C M k n pc P S G Q :=
  Runs.pure d (fun p e s m args below meth c T locs L hw hx hown hZ hd hP hsz _ X => ⟨L, hP, hsz, fun t r => XS.goto (g := mkF m pc L S) X.here hx rfl (pc0 := pc) rfl hd ho.1 ho.2 r⟩) h
theorem Runs.ifY {cd : ClassFile.Cond} {x : Int32} {o : Int} {pc' : Nat} (d : DAt M pc (.ifCond cd o) 3 q) (hc : if_icmp.holds cd x 0 = true) (ho : 0 ≤ (pc : Int) + o ∧ ((pc : Int) + o).toNat = pc') (h : Runs C M k n pc' P S G Q) : Runs C M k n pc P (.int x :: S) G Q :=
  Runs.pure d (fun p e s m args below meth c T locs L hw hx hown hZ hd hP hsz _ X => ⟨L, hP, hsz, fun t r => XS.ifYes (g := mkF m pc L (.int x :: S)) X.here hx rfl (pc0 := pc) rfl hd rfl ((if0 _ _).trans hc) ho.1 ho.2 r⟩) h
theorem Runs.ifN {cd : ClassFile.Cond} {x : Int32} {o : Int} (d : DAt M pc (.ifCond cd o) 3 q) (hc : if_icmp.holds cd x 0 = false) (h : Runs C M k n q P S G Q) : Runs C M k n pc P (.int x :: S) G Q :=
  Runs.stk d (fun p e s m args below meth c T locs L hx hd hP X t r => XS.ifNo (g := mkF m pc L (.int x :: S)) X.here hx rfl hd rfl ((if0 _ _).trans hc) r) h
theorem Runs.icY {cd : ClassFile.Cond} {x y : Int32} {o : Int} {pc' : Nat} (d : DAt M pc (.if_icmp cd o) 3 q) (hc : if_icmp.holds cd x y = true) (ho : 0 ≤ (pc : Int) + o ∧ ((pc : Int) + o).toNat = pc') (h : Runs C M k n pc' P S G Q) : Runs C M k n pc P (.int y :: .int x :: S) G Q :=
  Runs.pure d (fun p e s m args below meth c T locs L hw hx hown hZ hd hP hsz _ X => ⟨L, hP, hsz, fun t r => XS.icmpYes (g := mkF m pc L (.int y :: .int x :: S)) X.here hx rfl (pc0 := pc) rfl hd rfl hc ho.1 ho.2 r⟩) h
theorem Runs.icN {cd : ClassFile.Cond} {x y : Int32} {o : Int} (d : DAt M pc (.if_icmp cd o) 3 q) (hc : if_icmp.holds cd x y = false) (h : Runs C M k n q P S G Q) : Runs C M k n pc P (.int y :: .int x :: S) G Q :=
  Runs.stk d (fun p e s m args below meth c T locs L hx hd hP X t r => XS.icmpNo (g := mkF m pc L (.int y :: .int x :: S)) X.here hx rfl hd rfl hc r) h
theorem Runs.tswI {dflt low high : Int} {offs : Array Int} {len : Nat} {o : Int} {pc' : Nat} {i : Int32} (d : DAt M pc (.tableswitch dflt low high offs) len q) (hin : ¬ (i.toInt < low ∨ i.toInt > high)) (hoff : offs[(i.toInt - low).toNat]? = some o) (ho : 0 ≤ (pc : Int) + o ∧ ((pc : Int) + o).toNat = pc') (h : Runs C M k n pc' P S G Q) : Runs C M k n pc P (.int i :: S) G Q :=
  Runs.pure d (fun p e s m args below meth c T locs L hw hx hown hZ hd hP hsz _ X => ⟨L, hP, hsz, fun t r => XS.tswIn (g := mkF m pc L (.int i :: S)) X.here hx rfl (pc0 := pc) rfl hd rfl hin hoff ho.1 ho.2 r⟩) h
theorem Runs.tswO {dflt low high : Int} {offs : Array Int} {len : Nat} {pc' : Nat} {i : Int32} (d : DAt M pc (.tableswitch dflt low high offs) len q) (hout : i.toInt < low ∨ i.toInt > high) (ho : 0 ≤ (pc : Int) + dflt ∧ ((pc : Int) + dflt).toNat = pc') (h : Runs C M k n pc' P S G Q) : Runs C M k n pc P (.int i :: S) G Q :=
  Runs.pure d (fun p e s m args below meth c T locs L hw hx hown hZ hd hP hsz _ X => ⟨L, hP, hsz, fun t r => XS.tswOut (g := mkF m pc L (.int i :: S)) X.here hx rfl (pc0 := pc) rfl hd rfl hout ho.1 ho.2 r⟩) h
theorem Runs.istoreN {j : Fin 4} {x : Int32} (d : DAt M pc (.istore_n j) 1 q) (hi : j.val < M.2.2.1) (hP' : ps1 P j.val (.int x) = P') (h : Runs C M k n q P' S G Q) : Runs C M k n pc P (.int x :: S) G Q := by
  have hq := d.2
  subst hq hP'
  refine Runs.pure d (fun p e s m args below meth c T locs L hw hx hown hZ hd hP hsz _ X => ?_) h
  obtain ⟨L', e1, e2, e3⟩ := hP.store1 (i := j.val) (v := .int x) (by omega) rfl
  exact ⟨L', e3, e2.trans hsz, fun t r => XS.istoreN (g := mkF m pc L (.int x :: S)) X.here hx rfl hd rfl e1 r⟩
theorem Runs.istore {j : Nat} {x : Int32} (d : DAt M pc (.istore j) 2 q) (hi : j < M.2.2.1) (hP' : ps1 P j (.int x) = P') (h : Runs C M k n q P' S G Q) : Runs C M k n pc P (.int x :: S) G Q := by
  have hq := d.2
  subst hq hP'
  refine Runs.pure d (fun p e s m args below meth c T locs L hw hx hown hZ hd hP hsz _ X => ?_) h
  obtain ⟨L', e1, e2, e3⟩ := hP.store1 (i := j) (v := .int x) (by omega) rfl
  exact ⟨L', e3, e2.trans hsz, fun t r => XS.istore (g := mkF m pc L (.int x :: S)) X.here hx rfl hd rfl e1 r⟩
theorem Runs.astoreN {j : Fin 4} {x : Nat} (d : DAt M pc (.astore_n j) 1 q) (hi : j.val < M.2.2.1) (hP' : ps1 P j.val (.ref x) = P') (h : Runs C M k n q P' S G Q) : Runs C M k n pc P (.ref x :: S) G Q := by
  have hq := d.2
  subst hq hP'
  refine Runs.pure d (fun p e s m args below meth c T locs L hw hx hown hZ hd hP hsz _ X => ?_) h
  obtain ⟨L', e1, e2, e3⟩ := hP.store1 (i := j.val) (v := .ref x) (by omega) rfl
  exact ⟨L', e3, e2.trans hsz, fun t r => XS.astoreN (g := mkF m pc L (.ref x :: S)) X.here hx rfl hd rfl rfl e1 r⟩
theorem Runs.astore {j : Nat} {x : Nat} (d : DAt M pc (.astore j) 2 q) (hi : j < M.2.2.1) (hP' : ps1 P j (.ref x) = P') (h : Runs C M k n q P' S G Q) : Runs C M k n pc P (.ref x :: S) G Q := by
  have hq := d.2
  subst hq hP'
  refine Runs.pure d (fun p e s m args below meth c T locs L hw hx hown hZ hd hP hsz _ X => ?_) h
  obtain ⟨L', e1, e2, e3⟩ := hP.store1 (i := j) (v := .ref x) (by omega) rfl
  exact ⟨L', e3, e2.trans hsz, fun t r => XS.astore (g := mkF m pc L (.ref x :: S)) X.here hx rfl hd rfl rfl e1 r⟩
theorem Runs.lstoreN {j : Fin 4} {x : Int64} (d : DAt M pc (.lstore_n j) 1 q) (hi : j.val + 1 < M.2.2.1) (hP' : ps2 P j.val (.long x) = P') (h : Runs C M k n q P' S G Q) : Runs C M k n pc P (.long x :: S) G Q := by
  have hq := d.2
  subst hq hP'
  refine Runs.pure d (fun p e s m args below meth c T locs L hw hx hown hZ hd hP hsz _ X => ?_) h
  obtain ⟨L', e1, e2, e3⟩ := hP.store2 (i := j.val) (v := .long x) (by omega) rfl
  exact ⟨L', e3, e2.trans hsz, fun t r => XS.lstoreN (g := mkF m pc L (.long x :: S)) X.here hx rfl hd rfl e1 r⟩
theorem Runs.lstore {j : Nat} {x : Int64} (d : DAt M pc (.lstore j) 2 q) (hi : j + 1 < M.2.2.1) (hP' : ps2 P j (.long x) = P') (h : Runs C M k n q P' S G Q) : Runs C M k n pc P (.long x :: S) G Q := by
  have hq := d.2
  subst hq hP'
  refine Runs.pure d (fun p e s m args below meth c T locs L hw hx hown hZ hd hP hsz _ X => ?_) h
  obtain ⟨L', e1, e2, e3⟩ := hP.store2 (i := j) (v := .long x) (by omega) rfl
  exact ⟨L', e3, e2.trans hsz, fun t r => XS.lstore (g := mkF m pc L (.long x :: S)) X.here hx rfl hd rfl e1 r⟩
theorem Runs.iinc {j : Nat} {cst : Int} {x v : Int32} (d : DAt M pc (.iinc j cst) 3 q) (hv : Int32.ofInt cst = v) (hl : pget P j = vi x) (hi : j < M.2.2.1) (hP' : ps1 P j (.int (x + v)) = P') (h : Runs C M k n q P' S G Q) : Runs C M k n pc P S G Q := by
  have hq := d.2
  subst hq hP' hv
  refine Runs.pure d (fun p e s m args below meth c T locs L hw hx hown hZ hd hP hsz _ X => ?_) h
  obtain ⟨L', e1, e2, e3⟩ := hP.store1 (i := j) (v := .int (x + Int32.ofInt cst)) (by omega) rfl
  exact ⟨L', e3, e2.trans hsz, fun t r => XS.iinc (g := mkF m pc L S) X.here hx rfl hd (hP.1 _ _ hl) e1 r⟩
/-- less is known of the locals -/
def psub : Pat → Pat → Prop
  | [], _ => True
  | none :: l, _ :: l' => psub l l'
  | some s :: l, y :: l' => y = some s ∧ psub l l'
  | none :: l, [] => psub l []
  | some _ :: _, [] => False
theorem psub_get : ∀ (P P' : Pat), psub P P' → ∀ i s, pget P i = some s → pget P' i = some s
  | [], _, _, i, s, h => by simp [pget] at h
  | none :: l, _ :: l', H, 0, s, h => by simp [pget] at h
  | none :: l, _ :: l', H, i + 1, s, h => psub_get l l' H i s h
  | some x :: l, y :: l', H, 0, s, h => by rw [show y = some x from H.1]; exact h
  | some x :: l, y :: l', H, i + 1, s, h => psub_get l l' H.2 i s h
  | none :: l, [], H, 0, s, h => by simp [pget] at h
  | none :: l, [], H, i + 1, s, h => by have := psub_get l [] H i s h; simp [pget] at this
  | some _ :: _, [], H, _, _, _ => H.elim
theorem Runs.weak (hP : psub P' P) (h : Runs C M k n pc P' S G Q) : Runs C M k n pc P S G Q := by
  intro hw p e s m args below meth c T locs L hx hby hml hret hnm hown hZ hf
  exact h hw p e s m args below meth c T locs L hx hby hml hret hnm hown hZ ⟨fun i s hi => hf.1 i s (psub_get _ _ hP i s hi), hf.2⟩
theorem Runs.swap {top : Nat} {x y : Nat × Nat × Rec} {H : List (Nat × Nat × Rec)} (h : Runs C M k n pc P S (top, y :: x :: H) Q) : Runs C M k n pc P S (top, x :: y :: H) Q := by
  intro hw p e s m args below meth c T locs L hx hby hml hret hnm hown hZ hf hsz X hR hF
  exact h hw p e s m args below meth c T locs L hx hby hml hret hnm hown hZ hf hsz X hR.swap hF
end Rules
/- the steps that touch the heap -/
section Made
variable {p : Program} {l : Launch} {e : Env} {R : Room} {s : State} {m : MethodId} {args : Array Value} {below : List Frame} {meth : Method} {c : Code} {T : State} {locs : List Loc} {cells slots : Nat} {Z : State} {a0 : Array Value}
theorem ext_push (h : Heap) (x : Cell) : Ext h (h.push x) := ⟨by simp, fun a c q => by rw [Array.getElem?_push_lt (Array.getElem?_eq_some_iff.mp q).1]; exact (Array.getElem?_eq_getElem _).symm.trans q⟩
/-- 'new', with the heap's size behind it -/
theorem new1 (X : Stand p l e R s m args below meth c T locs cells slots) (hx : p.tables.exec = Jvm.exec) (hZ : Z.Warmed39 s.vm) {own C : String} {index n : Nat} (hown : s.vm.findClass own = some m.cls) (w : (Jvm.Cond.classLink own index C).before a0 Z = true) (wi : (Jvm.Cond.instantiable C n).before a0 Z = true) (wz : (Jvm.Cond.initialized C).before a0 Z = true)
    {g : JFrame} (hg : g.method = m) (hd : decode c.code g.pc = .ok (.new index, 3)) (hc : cells + 1 ≤ R.cells) (hl : slots + n ≤ R.slots) :
    ∃ T', Stand p l e R s m args below meth c T' locs (cells + 1) (slots + n) ∧ T'.heap.size = T.heap.size + 1 ∧ Ext T.heap T'.heap ∧ Exa Z T'.heap T.heap.size C ∧ (∀ {O nm d : String} {ty : FieldType}, Laid Z a0 C O nm d → parseFieldDescriptor d = some ty → Fld Z T'.heap T.heap.size O nm d (defaultValue ty)) ∧
      ∀ target, Steps p.tables e below (T'.setTop { g with pc := g.pc + 3, stack := .ref T.heap.size :: g.stack }) target → Steps p.tables e below (T.setTop g) target := by
  obtain ⟨vm', cC, kC, h1, h2, h3, h4, X', st⟩ := X.newCold hx hown (mv hZ w) (mv hZ wi) (mv hZ wz) hg hd hc hl
  rw [hZ.alike.findClass] at h1
  obtain ⟨kZ, z1, -⟩ := Vm.findClass_spec h1
  obtain ⟨k', z2, z3⟩ := hZ.alike.2.2 _ _ z1
  have ek : kC.instanceTypes = kZ.instanceTypes := by rw [Option.some.inj (h2.symm.trans z2), z3]
  obtain ⟨cell, hcell⟩ : ∃ cell : Cell, cell = { cls := cC, slots := kC.instanceTypes.map defaultValue, vm := .none } := ⟨_, rfl⟩
  rw [← hcell] at X' st
  have hp : ((T.setVm vm').pushCell cell).heap = T.heap.push cell := rfl
  have at' : (T.heap.push cell)[T.heap.size]? = some cell := by simp
  refine ⟨_, X', by rw [hp]; simp, by rw [hp]; exact ext_push _ _, ?_, fun {O nm d ty} L ht => ?_, st⟩
  · rw [hp]; exact ⟨cell, kZ, at', by rw [hcell]; exact h1, by rw [hcell]; exact z1, by rw [hcell]; rfl, fun _ => by rw [hcell]; simp [ek]⟩
  · rw [hp]
    obtain ⟨c1, k1, cf, kf, i, f, a1, a2, a3, a4, a5, a6, -⟩ := L.spec
    cases h1.symm.trans a1
    cases z1.symm.trans a2
    refine ⟨cell, cf, kf, i, f, at', a3, a4, by rw [hcell]; simp, by rw [hcell]; rfl, by rw [hcell]; exact a5, ?_⟩
    rw [hcell]; simp [ek, a6, (State.fieldFound?_type a3 ht).2]
theorem newArr1 (X : Stand p l e R s m args below meth c T locs cells slots) (hx : p.tables.exec = Jvm.exec) (hZ : Z.Warmed39 s.vm) {aty : ArrayType} (w : (Jvm.Cond.arrayClass (newarray.typeOf aty)).before a0 Z = true) {g : JFrame} (hg : g.method = m) (hd : decode c.code g.pc = .ok (.newarray aty, 2)) {n : Int32} {rest : List Value} (hs : g.stack = .int n :: rest)
    (hn : ¬ n < 0) (hb : n.toNatClampNeg * 8 ≤ 536870912) (hc : cells + 1 ≤ R.cells) (hl : slots + n.toNatClampNeg ≤ R.slots) :
    ∃ T' cA, Stand p l e R s m args below meth c T' locs (cells + 1) (slots + n.toNatClampNeg) ∧ T'.heap.size = T.heap.size + 1 ∧ Ext T.heap T'.heap ∧ Arr Z T'.heap T.heap.size (newA cA (newarray.typeOf aty) n) (newarray.typeOf aty) ∧
      ∀ target, Steps p.tables e below (T'.setTop { g with pc := g.pc + 2, stack := .ref T.heap.size :: rest }) target → Steps p.tables e below (T.setTop g) target := by
  have hcb : componentBytes (newarray.typeOf aty) ≤ 8 := by cases aty <;> decide
  obtain ⟨cA, kA, comp, h1, h2, h3, X', st⟩ := X.newarrayPrim hx (mvA hZ w) hg hd hs hn (Nat.le_trans (Nat.mul_le_mul_left _ hcb) hb) hc hl
  rw [hZ.alike.findClass] at h1
  obtain ⟨kZ, z1, -⟩ := Vm.findClass_spec h1
  obtain ⟨k', z2, z3⟩ := hZ.alike.2.2 _ _ z1
  have ek : kA.kind = kZ.kind := by rw [Option.some.inj (h2.symm.trans z2), z3]
  have hp : (T.pushCell (newA cA (newarray.typeOf aty) n)).heap = T.heap.push (newA cA (newarray.typeOf aty) n) := rfl
  refine ⟨T.pushCell (newA cA (newarray.typeOf aty) n), cA, X', by rw [hp]; simp, by rw [hp]; exact ext_push _ _, ?_, st⟩
  rw [hp]
  exact ⟨by simp, ⟨by simp [newA], kZ, z1, comp, by rw [← ek]; exact h3⟩, by simp [newA]⟩
end Made
section Heap
variable {C : Ctx} {M : Bdy} {k n pc q : Nat} {P P' : Pat} {S S' : List Value} {G : AH} {Q : Option Value → AH → Prop} {top : Nat} {a : Nat} {qq j idx : Nat} {ob : Rec} {H : List (Nat × Nat × Rec)} {nm ds : String}
theorem Runs.getI (d : DAt M pc (.getfield idx) 3 q) (w : Jvm.Cond.fieldLink M.1.cls idx K.1 nm ds ∈ tables_1) (hk : K.2.1[j]? = some (nm, ds)) (h : Runs C M k n q P (.int (gI ob j) :: S) (top, (a, qq, ob) :: H) Q) : Runs C M k n pc P (.ref a :: S) (top, (a, qq, ob) :: H) Q := by
  intro hw p e s m args below meth c T locs L hx hby hml hret hnm hown hZ hf hsz X hR hF
  have hq := d.2
  subst hq
  obtain ⟨T1, X1, e1, st1⟩ := getF X hx hZ hown (host := "") (Or.inl (hw _ w)) Via.refl rfl (hR.objs.2.2.2.1 j _ hk) (g := mkF m pc L (.ref a :: S)) rfl rfl (hb hby d.1)
  obtain ⟨T', locs', k', n', r, G', g1, g2, g3, g4, g5, g6, g7, g8⟩ := h hw p e s m args below meth c T1 locs L hx hby hml hret hnm hown hZ hf hsz X1 (by rw [e1]; exact hR) hF
  exact ⟨T', locs', k', n', r, G', g1, g2, g3, g4, g5, g6, g7, fun fs hr => st1 _ (g8 fs hr)⟩
theorem Runs.getA {ty : FieldType} {len : Int32} (d : DAt M pc (.getfield idx) 3 q) (hk : K.2.2[j]? = some (nm, ty, len)) (w : Jvm.Cond.fieldLink M.1.cls idx K.1 nm (aD ty) ∈ tables_1) (hq : j < qq) (h : Runs C M k n q P (.ref (a + 1 + j) :: S) (top, (a, qq, ob) :: H) Q) : Runs C M k n pc P (.ref a :: S) (top, (a, qq, ob) :: H) Q := by
  intro hw p e s m args below meth c T locs L hx hby hml hret hnm hown hZ hf hsz X hR hF
  have hqq := d.2
  subst hqq
  obtain ⟨T1, X1, e1, st1⟩ := getF X hx hZ hown (host := "") (Or.inl (hw _ w)) Via.refl rfl (hR.objs.2.2.2.2.1 j _ hk hq).1 (g := mkF m pc L (.ref a :: S)) rfl rfl (hb hby d.1)
  obtain ⟨T', locs', k', n', r, G', g1, g2, g3, g4, g5, g6, g7, g8⟩ := h hw p e s m args below meth c T1 locs L hx hby hml hret hnm hown hZ hf hsz X1 (by rw [e1]; exact hR) hF
  exact ⟨T', locs', k', n', r, G', g1, g2, g3, g4, g5, g6, g7, fun fs hr => st1 _ (g8 fs hr)⟩
theorem lw_of {Z : State} {a0 : Array Value} {meth : Method} (hw : ∀ d ∈ tables_1, d.before a0 Z = true) {C O n d own : String} (h : Jvm.Cond.lays C O n d ∈ tables_1 ∨ Jvm.Cond.laysFinal C O n d ∈ tables_1) (hc : Jvm.Cond.lays C O n d ∈ tables_1 ∨ (own = O ∧ meth.name = "<init>")) : (Jvm.Cond.lays C O n d).before a0 Z = true ∨ ((Jvm.Cond.laysFinal C O n d).before a0 Z = true ∧ own = O ∧ meth.name = "<init>") := by
  rcases hc with hc | hc
  · exact Or.inl (hw _ hc)
  · exact h.imp (hw _) (fun u => ⟨hw _ u, hc⟩)
/-- a field that may be written here: not final, or in a constructor of its class -/
def Mine (M : Bdy) (nm ds : String) : Prop := Jvm.Cond.lays K.1 K.1 nm ds ∈ tables_1 ∨ (M.1.cls = K.1 ∧ M.1.name = "<init>")
theorem Runs.putI {x : Int32} (d : DAt M pc (.putfield idx) 3 q) (w : Jvm.Cond.fieldLink M.1.cls idx K.1 nm "I" ∈ tables_1) (hk : K.2.1[j]? = some (nm, "I")) (hm : Mine M nm "I") (h : Runs C M k n q P S (top, (a, qq, sI ob j x) :: H) Q) : Runs C M k n pc P (.int x :: .ref a :: S) (top, (a, qq, ob) :: H) Q := by
  intro hw p e s m args below meth c T locs L hx hby hml hret hnm hown hZ hf hsz X hR hF
  have hqq := d.2
  subst hqq
  obtain ⟨T1, h1, X1, e1, W1, st1⟩ := putF X hx hZ hown (host := "") (Or.inl (hw _ w)) Via.refl rfl (hR.objs.2.2.2.1 j _ hk) hR.objs.2.2.1 (lw_of hw ((All.mem kS (List.mem_of_getElem? hk)).1) (hm.imp id (fun u => ⟨u.1, hnm.trans u.2⟩))) (hw _ kI) (ty := .int) (by decide) rfl rfl (g := mkF m pc L (.int x :: .ref a :: S)) rfl rfl (hb hby d.1)
  obtain ⟨T', locs', k', n', r, G', g1, g2, g3, g4, g5, g6, g7, g8⟩ := h hw p e s m args below meth c T1 _ L hx hby hml hret hnm hown hZ hf hsz X1 (by rw [e1]; exact hR.putI hw hk W1) (Fr.snoc X1 hF hR.objs.1)
  exact ⟨T', locs', k', n', r, G', g1, g2, g3, g4, g5, g6, g7, fun fs hr => st1 _ (g8 fs hr)⟩
theorem Runs.putZ {x y : Int32} (d : DAt M pc (.putfield idx) 3 q) (w : Jvm.Cond.fieldLink M.1.cls idx K.1 nm "Z" ∈ tables_1) (hk : K.2.1[j]? = some (nm, "Z")) (hm : Mine M nm "Z") (hy : nar .boolean x = y) (h : Runs C M k n q P S (top, (a, qq, sI ob j y) :: H) Q) : Runs C M k n pc P (.int x :: .ref a :: S) (top, (a, qq, ob) :: H) Q := by
  subst hy
  intro hw p e s m args below meth c T locs L hx hby hml hret hnm hown hZ hf hsz X hR hF
  have hqq := d.2
  subst hqq
  obtain ⟨T1, h1, X1, e1, W1, st1⟩ := putFN X hx hZ hown (hw _ w) Via.refl rfl (hR.objs.2.2.2.1 j _ hk) hR.objs.2.2.1 (lw_of hw ((All.mem kS (List.mem_of_getElem? hk)).1) (hm.imp id (fun u => ⟨u.1, hnm.trans u.2⟩))) (hw _ kI) (ty := .boolean) (v' := .int (nar .boolean x)) (by decide) rfl (fits_nar_bool _) (g := mkF m pc L (.int x :: .ref a :: S)) rfl rfl (hb hby d.1)
  obtain ⟨T', locs', k', n', r, G', g1, g2, g3, g4, g5, g6, g7, g8⟩ := h hw p e s m args below meth c T1 _ L hx hby hml hret hnm hown hZ hf hsz X1 (by rw [e1]; exact hR.putI hw hk W1) (Fr.snoc X1 hF hR.objs.1)
  exact ⟨T', locs', k', n', r, G', g1, g2, g3, g4, g5, g6, g7, fun fs hr => st1 _ (g8 fs hr)⟩
theorem Runs.ialoadA {i len : Int32} (d : DAt M pc .iaload 1 q) (hk : K.2.2[j]? = some (nm, .int, len)) (hq : j < qq) (hi : ¬ i < 0 ∧ i < len) (h : Runs C M k n q P (.int (gA ob j i) :: S) (top, (a, qq, ob) :: H) Q) : Runs C M k n pc P (.int i :: .ref (a + 1 + j) :: S) (top, (a, qq, ob) :: H) Q := by
  have hqq := d.2
  subst hqq
  refine Runs.pure d (fun p e s m args below meth c T locs L hw hx hown hZ hd hP hsz hR X => ⟨L, hP, hsz, fun t r => ?_⟩) h
  obtain ⟨cl, A, Sz, V⟩ := (hR.objs.2.2.2.2.1 j _ hk hq).2
  exact X.iaload hx (j := i) (v := .int (gA ob j i)) A.1 (State.isArrayOf_alike hZ.alike A.2.1) A.2.2 (inb_of Sz hi) (V i hi.1 hi.2) (g := mkF m pc L (.int i :: .ref (a + 1 + j) :: S)) rfl rfl hd _ r
theorem Runs.baloadA {i len : Int32} (d : DAt M pc .baload 1 q) (hk : K.2.2[j]? = some (nm, .boolean, len)) (hq : j < qq) (hi : ¬ i < 0 ∧ i < len) (h : Runs C M k n q P (.int (gA ob j i) :: S) (top, (a, qq, ob) :: H) Q) : Runs C M k n pc P (.int i :: .ref (a + 1 + j) :: S) (top, (a, qq, ob) :: H) Q := by
  have hqq := d.2
  subst hqq
  refine Runs.pure d (fun p e s m args below meth c T locs L hw hx hown hZ hd hP hsz hR X => ⟨L, hP, hsz, fun t r => ?_⟩) h
  obtain ⟨cl, A, Sz, V⟩ := (hR.objs.2.2.2.2.1 j _ hk hq).2
  exact X.baloadBooleans hx (j := i) (v := .int (gA ob j i)) A.1 (State.isArrayOf_alike hZ.alike A.2.1) A.2.2 (inb_of Sz hi) (V i hi.1 hi.2) (g := mkF m pc L (.int i :: .ref (a + 1 + j) :: S)) rfl rfl hd _ r
theorem Runs.laloadA {i len : Int32} (d : DAt M pc .laload 1 q) (hk : K.2.2[j]? = some (nm, .long, len)) (hq : j < qq) (hi : ¬ i < 0 ∧ i < len) (h : Runs C M k n q P (.long (gJ ob j i) :: S) (top, (a, qq, ob) :: H) Q) : Runs C M k n pc P (.int i :: .ref (a + 1 + j) :: S) (top, (a, qq, ob) :: H) Q := by
  have hqq := d.2
  subst hqq
  refine Runs.pure d (fun p e s m args below meth c T locs L hw hx hown hZ hd hP hsz hR X => ⟨L, hP, hsz, fun t r => ?_⟩) h
  obtain ⟨cl, A, Sz, V⟩ := (hR.objs.2.2.2.2.1 j _ hk hq).2
  exact X.laload hx (j := i) (v := .long (gJ ob j i)) A.1 (State.isArrayOf_alike hZ.alike A.2.1) A.2.2 (inb_of Sz hi) (V i hi.1 hi.2) (g := mkF m pc L (.int i :: .ref (a + 1 + j) :: S)) rfl rfl hd _ r
theorem Runs.iastoreA {i x len : Int32} (d : DAt M pc .iastore 1 q) (hk : K.2.2[j]? = some (nm, .int, len)) (hq : j < qq) (hi : ¬ i < 0 ∧ i < len) (h : Runs C M k n q P S (top, (a, qq, sA ob j i x) :: H) Q) : Runs C M k n pc P (.int x :: .int i :: .ref (a + 1 + j) :: S) (top, (a, qq, ob) :: H) Q := by
  intro hw p e s m args below meth c T locs L hx hby hml hret hnm hown hZ hf hsz X hR hF
  have hqq := d.2
  subst hqq
  obtain ⟨cl, A, Sz, V⟩ := (hR.objs.2.2.2.2.1 j _ hk hq).2
  obtain ⟨T1, h1, X1, e1, W1, st1⟩ := stI X hx hZ rfl A (j := i) (x := x) (inb_of Sz hi) (g := mkF m pc L (.int x :: .int i :: .ref (a + 1 + j) :: S)) rfl rfl (hb hby d.1)
  obtain ⟨T', locs', k', n', r, G', g1, g2, g3, g4, g5, g6, g7, g8⟩ := h hw p e s m args below meth c T1 _ L hx hby hml hret hnm hown hZ hf hsz X1 (by rw [e1]; exact hR.putA hk hq (by simp) hi W1) (Fr.snoc X1 hF (by have := hR.objs.1; omega))
  exact ⟨T', locs', k', n', r, G', g1, g2, g3, g4, g5, g6, g7, fun fs hr => st1 _ (g8 fs hr)⟩
theorem Runs.bastoreA {i x len : Int32} (d : DAt M pc .bastore 1 q) (hk : K.2.2[j]? = some (nm, .boolean, len)) (hq : j < qq) (hi : ¬ i < 0 ∧ i < len) {y : Int32} (hy : nar .boolean x = y) (h : Runs C M k n q P S (top, (a, qq, sA ob j i y) :: H) Q) : Runs C M k n pc P (.int x :: .int i :: .ref (a + 1 + j) :: S) (top, (a, qq, ob) :: H) Q := by
  subst hy
  intro hw p e s m args below meth c T locs L hx hby hml hret hnm hown hZ hf hsz X hR hF
  have hqq := d.2
  subst hqq
  obtain ⟨cl, A, Sz, V⟩ := (hR.objs.2.2.2.2.1 j _ hk hq).2
  obtain ⟨T1, h1, X1, e1, W1, st1⟩ := stZ X hx hZ rfl A (j := i) (x := x) (inb_of Sz hi) (g := mkF m pc L (.int x :: .int i :: .ref (a + 1 + j) :: S)) rfl rfl (hb hby d.1)
  obtain ⟨T', locs', k', n', r, G', g1, g2, g3, g4, g5, g6, g7, g8⟩ := h hw p e s m args below meth c T1 _ L hx hby hml hret hnm hown hZ hf hsz X1 (by rw [e1]; exact hR.putA hk hq (by simp) hi W1) (Fr.snoc X1 hF (by have := hR.objs.1; omega))
  exact ⟨T', locs', k', n', r, G', g1, g2, g3, g4, g5, g6, g7, fun fs hr => st1 _ (g8 fs hr)⟩
theorem Runs.lastoreA {i len : Int32} {x : Int64} (d : DAt M pc .lastore 1 q) (hk : K.2.2[j]? = some (nm, .long, len)) (hq : j < qq) (hi : ¬ i < 0 ∧ i < len) (h : Runs C M k n q P S (top, (a, qq, sJ ob j i x) :: H) Q) : Runs C M k n pc P (.long x :: .int i :: .ref (a + 1 + j) :: S) (top, (a, qq, ob) :: H) Q := by
  intro hw p e s m args below meth c T locs L hx hby hml hret hnm hown hZ hf hsz X hR hF
  have hqq := d.2
  subst hqq
  obtain ⟨cl, A, Sz, V⟩ := (hR.objs.2.2.2.2.1 j _ hk hq).2
  obtain ⟨T1, h1, X1, e1, W1, st1⟩ := stJ X hx hZ rfl A (j := i) (x := x) (inb_of Sz hi) (g := mkF m pc L (.long x :: .int i :: .ref (a + 1 + j) :: S)) rfl rfl (hb hby d.1)
  obtain ⟨T', locs', k', n', r, G', g1, g2, g3, g4, g5, g6, g7, g8⟩ := h hw p e s m args below meth c T1 _ L hx hby hml hret hnm hown hZ hf hsz X1 (by rw [e1]; exact hR.putJ hk hq rfl hi W1) (Fr.snoc X1 hF (by have := hR.objs.1; omega))
  exact ⟨T', locs', k', n', r, G', g1, g2, g3, g4, g5, g6, g7, fun fs hr => st1 _ (g8 fs hr)⟩
/-- the script: an array that stood before the law began -/
def ScrF (C : Ctx) (sa : Nat) (z : Int32) (f : Int32 → Int32) : Prop := ∃ cl : Cell, Scr C.2.1 C.2.1.heap sa cl z ∧ f = atv cl
theorem Runs.lenS {sa : Nat} {z : Int32} {f : Int32 → Int32} (hs : ScrF C sa z f) (d : DAt M pc .arraylength 1 q) (h : Runs C M k n q P (.int z :: S) G Q) : Runs C M k n pc P (.ref sa :: S) G Q := by
  have hqq := d.2
  subst hqq
  refine Runs.pure d (fun p e s m args below meth c T locs L hw hx hown hZ hd hP hsz hR X => ⟨L, hP, hsz, fun t r => ?_⟩) h
  obtain ⟨cl, F, -⟩ := hs
  obtain ⟨A, Sz, N, V⟩ := F.ext hR.2.1.2
  exact X.arraylength hx A.1 (State.isArrayOf_alike hZ.alike A.2.1) (g := mkF m pc L (.ref sa :: S)) rfl rfl hd _ (by rw [len_of Sz N]; exact r)
theorem Runs.ialoadS {sa : Nat} {z i : Int32} {f : Int32 → Int32} (hs : ScrF C sa z f) (d : DAt M pc .iaload 1 q) (hi : ¬ i < 0 ∧ i < z) (h : Runs C M k n q P (.int (f i) :: S) G Q) : Runs C M k n pc P (.int i :: .ref sa :: S) G Q := by
  have hqq := d.2
  subst hqq
  refine Runs.pure d (fun p e s m args below meth c T locs L hw hx hown hZ hd hP hsz hR X => ⟨L, hP, hsz, fun t r => ?_⟩) h
  obtain ⟨cl, F, rfl⟩ := hs
  obtain ⟨A, Sz, N, V⟩ := F.ext hR.2.1.2
  exact X.iaload hx (j := i) (v := .int (atv cl i)) A.1 (State.isArrayOf_alike hZ.alike A.2.1) A.2.2 (inb_of Sz hi) (V i (inb_of Sz hi)) (g := mkF m pc L (.int i :: .ref sa :: S)) rfl rfl hd _ r
/- leaving -/
theorem Runs.retI {v : Int32} (d : DAt M pc .ireturn 1 q) (hret : M.2.2.2.1 = some .int) (hk : k ≤ M.2.2.2.2.cells ∧ n ≤ M.2.2.2.2.slots) (hQ : Q (some (.int v)) G) : Runs C M k n pc P (.int v :: S) G Q := by
  intro hw p e s m args below meth c T locs L hx hby hml hr0 hnm hown hZ hf hsz X hR hF
  exact ⟨T, locs, k, n, _, G, X, hk.1, hk.2, hR, hF, hQ, (fun u => by rw [hret] at u; cases u), fun fs hr => Jvm.RoadKit.retI X hx (hr0.trans hret) (hb hby d.1) hr⟩
theorem Runs.retZ {v : Int32} (d : DAt M pc .ireturn 1 q) (hret : M.2.2.2.1 = some .boolean) (hk : k ≤ M.2.2.2.2.cells ∧ n ≤ M.2.2.2.2.slots) {y : Int32} (hy : nar .boolean v = y) (hQ : Q (some (.int y)) G) : Runs C M k n pc P (.int v :: S) G Q := by
  subst hy
  intro hw p e s m args below meth c T locs L hx hby hml hr0 hnm hown hZ hf hsz X hR hF
  exact ⟨T, locs, k, n, _, G, X, hk.1, hk.2, hR, hF, hQ, (fun u => by rw [hret] at u; cases u), fun fs hr => retN X hx (t := .boolean) (hr0.trans hret) (by simp) (hb hby d.1) hr⟩
theorem Runs.retJ {v : Int64} (d : DAt M pc .lreturn 1 q) (hret : M.2.2.2.1 = some .long) (hk : k ≤ M.2.2.2.2.cells ∧ n ≤ M.2.2.2.2.slots) (hQ : Q (some (.long v)) G) : Runs C M k n pc P (.long v :: []) G Q := by
  intro hw p e s m args below meth c T locs L hx hby hml hr0 hnm hown hZ hf hsz X hR hF
  exact ⟨T, locs, k, n, _, G, X, hk.1, hk.2, hR, hF, hQ, (fun u => by rw [hret] at u; cases u), fun fs hr => X.lreturnOut hx (hr0.trans hret) (hb hby d.1) hr⟩
theorem Runs.retV (d : DAt M pc .return_ 1 q) (hret : M.2.2.2.1 = none) (hk : k ≤ M.2.2.2.2.cells ∧ n ≤ M.2.2.2.2.slots) (hQ : Q none G) : Runs C M k n pc P [] G Q := by
  intro hw p e s m args below meth c T locs L hx hby hml hr0 hnm hown hZ hf hsz X hR hF
  exact ⟨T, locs, k, n, _, G, X, hk.1, hk.2, hR, hF, hQ, (fun _ => rfl), fun fs hr => X.returnOut hx (hr0.trans hret) (hb hby d.1) hr⟩
/- a new object, and the arrays that its constructor makes -/
theorem Runs.newK (d : DAt M pc (.new idx) 3 q) (w : Jvm.Cond.classLink M.1.cls idx K.1 ∈ tables_1) (hc : k + 1 ≤ M.2.2.2.2.cells ∧ n + kN ≤ M.2.2.2.2.slots) {k' n' : Nat} (hk' : k + 1 = k') (hn' : n + kN = n') {H : List (Nat × Nat × Rec)} (hd : ∀ x ∈ H, x.1 + x.2.1 < top) (h : Runs C M k' n' q P (.ref top :: S) (top + 1, (top, 0, zrec) :: H) Q) : Runs C M k n pc P S (top, H) Q := by
  subst hk' hn'
  intro hw p e s m args below meth c T locs L hx hby hml hr0 hnm hown hZ hf hsz X hR hF
  have hqq := d.2
  subst hqq
  obtain ⟨T2, X2, s2, E2, A2, D2, st2⟩ := new1 X hx hZ hown (hw _ w) (hw _ kI) (hw _ kZ) (g := mkF m pc L S) rfl (hb hby d.1) hc.1 hc.2
  have hs : T.heap.size = top := hR.1
  rw [hs] at A2 D2 st2 s2
  have hR2 : Rep C.2.1 C.2.2.1 T2.heap (top + 1, (top, 0, zrec) :: H) := by
    refine ⟨s2, hR.2.1.ext E2, fun x hx' => ?_, ?_⟩
    · rcases List.mem_cons.mp hx' with rfl | hx'
      · refine ⟨?_, by simp, A2, fun k nd hk => ?_, fun k t hk hq => by simp at hq, fun k t hk hq => ?_⟩
        · have := hR.2.1.2.1; rw [hR.2.1.1] at this; simp only; omega
        · rcases (All.mem kS (List.mem_of_getElem? hk)).2 with e | e
          · have := D2 (laidS hw hk) (ty := .int) (by rw [e]; decide); exact this
          · have := D2 (laidS hw hk) (ty := .boolean) (by rw [e]; decide); exact this
        · have := D2 (laidA hw hk) (pfA hk); exact this
      · obtain ⟨p1, p2, p3⟩ := hR.2.2.1 x hx'
        exact ⟨p1, by simp only at p2 ⊢; omega, p3.ext E2⟩
    · exact List.pairwise_cons.mpr ⟨fun y hy => Or.inr (hd y hy), hR.2.2.2⟩
  obtain ⟨T', locs', k', n', r, G', g1, g2, g3, g4, g5, g6, g7, g8⟩ := h hw p e s m args below meth c T2 _ L hx hby hml hr0 hnm hown hZ hf hsz X2 hR2 hF
  exact ⟨T', locs', k', n', r, G', g1, g2, g3, g4, g5, g6, g7, fun fs hr => st2 _ (g8 fs hr)⟩
/-- newarray and the putfield behind it: the next array of an object that is being made -/
theorem Runs.newArr {aty : ArrayType} {ty : FieldType} {len : Int32} {q1 : Nat} (d : DAt M pc (.newarray aty) 2 q1) (d' : DAt M q1 (.putfield idx) 3 q) (hk : K.2.2[j]? = some (nm, ty, len)) (w : Jvm.Cond.fieldLink M.1.cls idx K.1 nm (aD ty) ∈ tables_1) (ht : newarray.typeOf aty = ty) (wa : Jvm.Cond.arrayClass ty ∈ tables_1) (hm : Mine M nm (aD ty))
    (htop : top = a + 1 + j) (hlen : ¬ len < 0 ∧ len.toNatClampNeg * 8 ≤ 536870912) (hc : k + 1 ≤ M.2.2.2.2.cells ∧ n + len.toNatClampNeg ≤ M.2.2.2.2.slots) (hz : (∀ i, ob.2.1 j i = 0) ∧ (∀ i, ob.2.2 j i = 0)) {j' top' k' n' : Nat} (hj' : j + 1 = j') (ht' : top + 1 = top') (hk' : k + 1 = k') (hn' : n + len.toNatClampNeg = n')
    (h : Runs C M k' n' q P S (top', (a, j', ob) :: H) Q) : Runs C M k n pc P (.int len :: .ref a :: S) (top, (a, j, ob) :: H) Q := by
  subst hj' ht' hk' hn'
  intro hw p e s m args below meth c T locs L hx hby hml hr0 hnm hown hZ hf hsz X hR hF
  have hqq := d.2
  have hqq' := d'.2
  subst hqq hqq' ht
  obtain ⟨T1, cA, X1, s1, E1, A1, st1⟩ := newArr1 X hx hZ (hw _ wa) (g := mkF m pc L (.int len :: .ref a :: S)) rfl (hb hby d.1) rfl hlen.1 hlen.2 hc.1 hc.2
  have hs : T.heap.size = top := hR.1
  rw [hs] at A1 st1 s1
  have O1 := hR.objs.2.2.ext E1
  obtain ⟨T2, h2, X2, e2, W2, st2⟩ := putF X1 hx hZ hown (host := "") (Or.inl (hw _ w)) Via.refl rfl (O1.2.2.2 j _ hk (Nat.le_refl _)) O1.1 (lw_of hw ((All.mem kA (List.mem_of_getElem? hk)).1) (hm.imp id (fun u => ⟨u.1, hnm.trans u.2⟩))) (hw _ kI) (ty := .array (newarray.typeOf aty)) (pfA hk) rfl rfl (g := mkF m (pc + 2) L (.ref top :: .ref a :: S)) rfl rfl (hb hby d'.1)
  have hts : (newarray.typeOf aty = .int ∨ newarray.typeOf aty = .boolean ∨ newarray.typeOf aty = .long) := (All.mem kA (List.mem_of_getElem? hk)).2.1
  have hA := arr_new A1 hts hz
  have hR2 : Rep C.2.1 C.2.2.1 T2.heap (top + 1, (a, j + 1, ob) :: H) := by rw [e2]; exact hR.addA hw E1 s1 htop hk hA W2
  obtain ⟨T', locs', k', n', r, G', g1, g2, g3, g4, g5, g6, g7, g8⟩ := h hw p e s m args below meth c T2 _ L hx hby hml hr0 hnm hown hZ hf hsz X2 hR2 (Fr.snoc X2 hF hR.objs.1)
  exact ⟨T', locs', k', n', r, G', g1, g2, g3, g4, g5, g6, g7, fun fs hr => st1 _ (st2 _ (g8 fs hr))⟩
theorem Runs.initO {W : Nat} (d : DAt M pc (.invokespecial idx) 3 q) (w1 : Jvm.Cond.methodLink M.1.cls idx Lib.objectInit ∈ tables_1) (w2 : Jvm.Cond.instanceMethod Lib.objectInit ∈ tables_1) (w3 : Jvm.Cond.code Lib.objectInit ⟨#[0xb1]⟩ 1 none ∈ tables_1) (hW : (S.map fun v => v.category).sum = W) (hc : 1 ≤ M.2.2.2.2.frames ∧ W + 12 ≤ M.2.2.2.2.locals) (h : Runs C M k n q P S G Q) : Runs C M k n pc P (.ref a :: S) G Q := by
  intro hw p e s m args below meth c T locs L hx hby hml hr0 hnm hown hZ hf hsz X hR hF
  have hqq := d.2
  subst hqq
  obtain ⟨T1, X1, e1, st1⟩ := Jvm.RoadKit.initO X hx hZ hown (hw _ w1) (hw _ w2) (hw _ w3) rfl (g := mkF m pc L (.ref a :: S)) rfl (by rw [hml]; exact hsz) rfl (hb hby d.1) hc.1 (W := W) (by show 2 * 0 + _ ≤ _; omega) hc.2
  obtain ⟨T', locs', k', n', r, G', g1, g2, g3, g4, g5, g6, g7, g8⟩ := h hw p e s m args below meth c T1 _ L hx hby hml hr0 hnm hown hZ hf hsz X1 (by rw [e1]; exact hR) hF
  exact ⟨T', locs', k', n', r, G', g1, g2, g3, g4, g5, g6, g7, fun fs hr => st1 _ (g8 fs hr)⟩
end Heap
/- a body's contract, and the calls that are paid by one -/
def Pays (C : Ctx) (N : Bdy) (as : List Value) (G : AH) (Q : Option Value → AH → Prop) : Prop :=
  Ok C → ∀ h0 : Heap, Rep C.2.1 C.2.2.1 h0 G → ∀ ws : List Jvm.Cond, MetFree C.1 N.1 (head1 (Jvm.Cond.code N.1 N.2.1 N.2.2.1 N.2.2.2.1 :: ws) N.2.2.2.2) (fun a U => a = as.toArray ∧ C.2.1.Warmed39 U.vm ∧ U.heap = h0) (fun _ _ _ _ _ => True)
    (fun _ U o U' => ∃ v L, o = .returned v ∧ (Fr C.2.2.1 L ∧ ∃ G', Rep C.2.1 C.2.2.1 U'.heap G' ∧ Q v G') ∧ FrameEnd U o U' L N.2.2.2.2.cells N.2.2.2.2.slots)
def lay : List Value → List Slot
  | [] => []
  | v :: l => if v.category = 2 then .val v :: .second :: lay l else .val v :: lay l
theorem lay_foldl (l : List Value) : ∀ acc : Array Slot, (l.foldl (fun acc v => if v.category = 2 then (acc.push (.val v)).push .second else acc.push (.val v)) acc).toList = acc.toList ++ lay l := by
  induction l with
  | nil => intro acc; simp [lay]
  | cons v l ih =>
    intro acc
    rw [List.foldl_cons, ih]
    by_cases h : v.category = 2 <;> simp [lay, h]
theorem args_lay (as : List Value) (ml : Nat) : argsToLocals as.toArray ml = (lay as ++ List.replicate (ml - (lay as).length) Slot.unset).toArray := by
  have h := lay_foldl as #[]
  apply Array.ext'
  simp only [argsToLocals, Array.toList_append, List.toList_toArray] at *
  rw [show (as.toArray.foldl (init := #[]) fun acc v => if v.category = 2 then (acc.push (Slot.val v)).push .second else acc.push (.val v)).toList = lay as by simpa using h]
  congr 1
  rw [← Array.length_toList, show (as.toArray.foldl (init := #[]) fun acc v => if v.category = 2 then (acc.push (Slot.val v)).push .second else acc.push (.val v)).toList = lay as by simpa using h]
  simp
def WFL (l : List Slot) : Prop := (∀ i : Nat, l[i]? = some .second → ∃ (j : Nat) (v : Value), i = j + 1 ∧ l[j]? = some (.val v) ∧ v.category = 2) ∧ (∀ (i : Nat) (v : Value), l[i]? = some (.val v) → v.category = 2 → l[i + 1]? = some .second)
theorem WFL.unset (n : Nat) : WFL (List.replicate n Slot.unset) := by
  refine ⟨fun i h => ?_, fun i v h => ?_⟩ <;> (rw [List.getElem?_replicate] at h; split at h <;> cases h)
theorem WFL.one {l : List Slot} {v : Value} (h : WFL l) (hv : v.category ≠ 2) : WFL (.val v :: l) := by
  refine ⟨fun i hi => ?_, fun i w hi hw => ?_⟩
  · cases i with
    | zero => simp at hi
    | succ i =>
      obtain ⟨j, w, e1, e2, e3⟩ := h.1 i (by simpa using hi)
      exact ⟨j + 1, w, by omega, by simpa using e2, e3⟩
  · cases i with
    | zero => simp at hi; subst hi; exact absurd hw hv
    | succ i => have := h.2 i w (by simpa using hi) hw; simpa using this
theorem WFL.two {l : List Slot} {v : Value} (h : WFL l) (hv : v.category = 2) : WFL (.val v :: .second :: l) := by
  refine ⟨fun i hi => ?_, fun i w hi hw => ?_⟩
  · match i, hi with
    | 0, hi => simp at hi
    | 1, hi => exact ⟨0, v, rfl, by simp, hv⟩
    | i + 2, hi =>
      obtain ⟨j, w, e1, e2, e3⟩ := h.1 i (by simpa using hi)
      exact ⟨j + 2, w, by omega, by simpa using e2, e3⟩
  · match i, hi with
    | 0, hi => simp
    | 1, hi => simp at hi
    | i + 2, hi => have := h.2 i w (by simpa using hi) hw; simpa using this
theorem WFL.lay (as : List Value) (n : Nat) : WFL (lay as ++ List.replicate n Slot.unset) := by
  induction as with
  | nil => exact WFL.unset n
  | cons v l ih =>
    by_cases h : v.category = 2
    · simpa [Jvm.Pilot.@@N@@.lay, h] using ih.two h
    · simpa [Jvm.Pilot.@@N@@.lay, h] using ih.one h
def pforget : List Bool → Pat → Pat
  | [], _ => []
  | _, [] => []
  | true :: ms, x :: l => x :: pforget ms l
  | false :: ms, _ :: l => none :: pforget ms l
theorem pforget_get : ∀ (ms : List Bool) (P : Pat) (i : Nat) (s : Slot), pget (pforget ms P) i = some s → pget P i = some s
  | [], _, i, s, h => by simp [pforget, pget] at h
  | _ :: _, [], i, s, h => by simp [pforget, pget] at h
  | true :: ms, x :: l, 0, s, h => h
  | true :: ms, x :: l, i + 1, s, h => pforget_get ms l i s h
  | false :: ms, x :: l, 0, s, h => by simp [pforget, pget] at h
  | false :: ms, x :: l, i + 1, s, h => pforget_get ms l i s h
section Calls
variable {C : Ctx} {M N : Bdy} {k n pc q : Nat} {P P' : Pat} {S S' : List Value} {G G1 : AH} {Q : Option Value → AH → Prop} {top : Nat} {a : Nat} {qq j idx W : Nat} {ob : Rec} {H : List (Nat × Nat × Rec)} {as : List Value}
theorem Runs.forget (ms : List Bool) (hP : pforget ms P = P') (h : Runs C M k n pc P' S G Q) : Runs C M k n pc P S G Q := by
  intro hw p e s m args below meth c T locs L hx hby hml hret hnm hown hZ hf
  subst hP
  exact h hw p e s m args below meth c T locs L hx hby hml hret hnm hown hZ ⟨fun i s hi => hf.1 i s (pforget_get _ _ i s hi), hf.2⟩
theorem Pays.of (hpl : plainName N.1.cls = true) (hml : (lay as).length ≤ N.2.2.1) (x : Nat) (hP : (lay as).map some ++ List.replicate x none = P) (h : Runs C N 0 0 0 P [] G Q) : Pays C N as G Q := by
  intro hw h0 hR ws
  refine MetFree.of_bodySF (plainFor_of_name hpl) hisR ?_
  intro p e s m args below meth c s₁ Bd hml0 hp hK
  obtain ⟨rfl, hZ, hh⟩ := hp
  have X0 : Stand p C.1 e N.2.2.2.2 s m as.toArray below meth c s₁ [] 0 0 := Stand.of_body Bd
  have e0 : s₁.heap = h0 := by rw [← hh, Bd.state]; rfl
  obtain ⟨L, hL⟩ : ∃ L : Array Slot, L = (lay as ++ List.replicate (N.2.2.1 - (lay as).length) Slot.unset).toArray := ⟨_, rfl⟩
  have hfit : Fits P L := by
    subst hP hL
    refine ⟨fun i s hi => ?_, ?_⟩
    · rw [pget_eq] at hi
      cases hq : (lay as)[i]? with
      | none =>
        rw [List.getElem?_append_right (by simpa using hq), List.getElem?_replicate] at hi
        split at hi <;> simp at hi
      | some y =>
        have hlt := (List.getElem?_eq_some_iff.mp hq).1
        rw [List.getElem?_append_left (by simpa using hlt), List.getElem?_map, hq] at hi
        have this : y = s := by simpa using hi
        simp only [List.getElem?_toArray]
        rw [List.getElem?_append_left hlt, hq, this]
    · have := WFL.lay as (N.2.2.1 - (lay as).length)
      refine ⟨fun i hi => ?_, fun i v hi hv => ?_⟩
      · rw [List.getElem?_toArray] at hi
        obtain ⟨j, v, e1, e2, e3⟩ := this.1 i hi
        exact ⟨j, v, e1, by rw [List.getElem?_toArray]; exact e2, e3⟩
      · rw [List.getElem?_toArray] at hi ⊢
        exact this.2 i v hi hv
  obtain ⟨T', locs', k', n', r, G', g1, g2, g3, g4, g5, g6, g7, g8⟩ := h hw p e s m as.toArray below meth c s₁ [] L Bd.exec Bd.bytes hml0 Bd.returns (name_of_methodNamed Bd.named Bd.method).1 (findClass_of_methodNamed Bd.named) hZ hfit (by rw [hL]; simp; omega) X0 (by rw [e0]; exact hR) (Fr.nil _)
  obtain ⟨fs, hr, hrun, hended, hW, hsame⟩ := g1.leave (v := r) (fun u => g7 (by rw [← Bd.returns]; exact u))
  refine ⟨_, _, ?_, hrun, hended, _, _, rfl, ⟨g5, G', ?_, g6⟩, ⟨_, rfl⟩, hW, hsame.mono g2 g3⟩
  · have ef : entryFrame m as.toArray N.2.2.1 = mkF m 0 L [] := by
      rw [hL, ← args_lay]; rfl
    rw [ef]; exact g8 fs hr
  · exact g4
abbrev room_al (M N : Bdy) (W k n : Nat) : Prop := N.2.2.2.2.frames + 1 ≤ M.2.2.2.2.frames ∧ W + (N.2.2.1 + 11) + N.2.2.2.2.locals ≤ M.2.2.2.2.locals ∧ k + N.2.2.2.2.cells ≤ M.2.2.2.2.cells ∧ n + N.2.2.2.2.slots ≤ M.2.2.2.2.slots
abbrev room_ok (M N : Bdy) (W : Nat) : Prop := N.2.2.2.2.frames + 1 ≤ M.2.2.2.2.frames ∧ W + (N.2.2.1 + 11) + N.2.2.2.2.locals ≤ M.2.2.2.2.locals ∧ N.2.2.2.2.cells = 0 ∧ N.2.2.2.2.slots = 0
abbrev full_ok (M : Bdy) (k n : Nat) : Prop := k ≤ M.2.2.2.2.cells ∧ n ≤ M.2.2.2.2.slots
theorem room_ok.al (h : room_ok M N W) (f : full_ok M k n) : room_al M N W k n := ⟨h.1, h.2.1, by rw [h.2.2.1]; exact f.1, by rw [h.2.2.2]; exact f.2⟩
abbrev code_w (N : Bdy) : Prop := Jvm.Cond.code N.1 N.2.1 N.2.2.1 N.2.2.2.1 ∈ tables_1 ∧ Jvm.Cond.initialized N.1.cls ∈ tables_1 ∧ (N.1.cls ≠ "java/lang/invoke/MethodHandle" ∧ N.1.cls ≠ "java/lang/invoke/VarHandle")
def arity (N : Bdy) (na : Nat) : Prop := ∃ ps r, parseMethodDescriptor N.1.desc = some ⟨ps, r⟩ ∧ na = ps.length
theorem arity.len {na : Nat} (h : arity N na) (e : as.length = na) : ∀ sig, parseMethodDescriptor N.1.desc = some sig → as.length = sig.parameters.length := by
  obtain ⟨ps, r, h1, h2⟩ := h
  exact lenOf h1 (e.trans h2)
theorem after_call {v : Option Value} {p : Program} {e : Env} {s : State} {m : MethodId} {args : Array Value} {below : List Frame} {meth : Method} {c : Code} {T T0 : State} {locs : List Loc} {L : Array Slot} {QN : Option Value → AH → Prop} {Lc : List Loc}
    (hw : Ok C) (hx : p.tables.exec = Jvm.exec) (hby : c.code = M.2.1) (hml : c.maxLocals = M.2.2.1) (hret : meth.sig.returnType = M.2.2.2.1) (hnm : meth.name = M.1.name) (hown : s.vm.findClass M.1.cls = some m.cls) (hZ : C.2.1.Warmed39 s.vm) (hf : Fits P L) (hsz : L.size = M.2.2.1) (hF : Fr C.2.2.1 locs)
    (X : Stand p C.1 e M.2.2.2.2 s m args below meth c T (locs ++ Lc) (k + N.2.2.2.2.cells) (n + N.2.2.2.2.slots)) (hQ : Fr C.2.2.1 Lc ∧ ∃ G', Rep C.2.1 C.2.2.1 T.heap G' ∧ QN v G')
    (h : ∀ v G', QN v G' → Runs C M (k + N.2.2.2.2.cells) (n + N.2.2.2.2.slots) (pc + 3) P (v.toList ++ S') G' Q)
    (st : ∀ t, Steps p.tables e below (T.setTop (mkF m (pc + 3) L (v.toList ++ S'))) t → Steps p.tables e below (T0.setTop (mkF m pc L S)) t) :
    ∃ (T' : State) (locs' : List Loc) (k' n' : Nat) (r : Option Value) (G' : AH), Stand p C.1 e M.2.2.2.2 s m args below meth c T' locs' k' n' ∧ k' ≤ M.2.2.2.2.cells ∧ n' ≤ M.2.2.2.2.slots ∧ Rep C.2.1 C.2.2.1 T'.heap G' ∧ Fr C.2.2.1 locs' ∧ Q r G' ∧
      (M.2.2.2.1 = none → r = none) ∧
      ∀ fs : List Frame, (∀ (f : JFrame) (acts : List Action), f.method = m → f.locked = none → f.entered = [] → (doReturn e (T'.setTop f) acts r).1 = T'.setFrames fs) → Steps p.tables e below (T0.setTop (mkF m pc L S)) (T'.setFrames fs) := by
  obtain ⟨f1, G', f2, f3⟩ := hQ
  obtain ⟨T', locs', k', n', r, G'', g1, g2, g3, g4, g5, g6, g7, g8⟩ := h v G' f3 hw p e s m args below meth c T _ L hx hby hml hret hnm hown hZ hf hsz X f2 (Fr.app hF f1)
  exact ⟨T', locs', k', n', r, G'', g1, g2, g3, g4, g5, g6, g7, fun fs hr => st _ (g8 fs hr)⟩
theorem Runs.callS {QN : Option Value → AH → Prop} (d : DAt M pc (.invokestatic idx) 3 q) (wl : Jvm.Cond.methodLink M.1.cls idx N.1 ∈ tables_1) (wt : Jvm.Cond.static N.1 ∈ tables_1) (wc : code_w N) (ar : arity N as.length) (hr0 : room_ok M N W) (hfull : full_ok M k n) (hS : S = as.reverse ++ S') (hW : (S'.map fun v => v.category).sum = W)
    (hN : Pays C N as G QN) (h : ∀ v G', QN v G' → Runs C M k n q P (v.toList ++ S') G' Q) : Runs C M k n pc P S G Q := by
  intro hw p e s m args below meth c T locs L hx hby hml hret hnm hown hZ hf hsz X hR hF
  have hq := d.2
  subst hq hS
  have hr := hr0.al hfull
  obtain ⟨_, _, ⟨T1, L1, k1, n1⟩, -, X1, ⟨Lc, hQ, l1, y1, z1⟩, st⟩ := Jvm.LawKit.callS X hx (y := N.1) hown (mvT hZ (hw _ wl)) (mvT hZ (hw _ wt)) (mvT hZ (hw _ wc.2.1)) (mvT hZ (hw _ wc.1)) wc.2.2 (backOf (W := W) (Q := fun v h L => Fr C.2.2.1 L ∧ ∃ G', Rep C.2.1 C.2.2.1 h G' ∧ QN v G') (hN hw T.heap hR []) hZ (hw _ wc.1) (hw _ wc.2.1) hr.1 hr.2.1) (g := mkF m pc L (as.reverse ++ S')) rfl (by rw [hml]; exact hsz) (argsL := as) (rest := S') (ar.len rfl) rfl (by show 2 * 0 + _ ≤ _; omega) (hb hby d.1) (fun _ _ => ⟨rfl, rfl, hr.2.2.1, hr.2.2.2⟩)
  dsimp only [Pt.U, Pt.locs, Pt.cells, Pt.slots] at X1 l1 y1 z1 st hQ
  subst l1 y1 z1
  exact after_call hw hx hby hml hret hnm hown hZ hf hsz hF X1 hQ (by rw [hr0.2.2.1, hr0.2.2.2]; exact h) (fun t u => st t u)
theorem Runs.callV {QN : Option Value → AH → Prop} (d : DAt M pc (.invokevirtual idx) 3 q) (wl : Jvm.Cond.methodLink M.1.cls idx N.1 ∈ tables_1) (wd : Jvm.Cond.declares N.1 ∈ tables_1) (wi : Jvm.Cond.instanceMethod N.1 ∈ tables_1) (ws : Jvm.Cond.selects K.1 N.1 N.1 ∈ tables_1) (wc : code_w N) (ar : arity N as.length) (hr0 : room_ok M N W) (hfull : full_ok M k n) (hS : S = as.reverse ++ .ref a :: S') (hW : (S'.map fun v => v.category).sum = W)
    (hN : Pays C N (.ref a :: as) (top, (a, qq, ob) :: H) QN) (h : ∀ v G', QN v G' → Runs C M k n q P (v.toList ++ S') G' Q) : Runs C M k n pc P S (top, (a, qq, ob) :: H) Q := by
  intro hw p e s m args below meth c T locs L hx hby hml hret hnm hown hZ hf hsz X hR hF
  have hq := d.2
  subst hq hS
  have hr := hr0.al hfull
  obtain ⟨cB, kB, u1, -, u3⟩ := isOf hZ rfl hR.objs.2.2.1
  obtain ⟨_, _, ⟨T1, L1, k1, n1⟩, -, X1, ⟨Lc, hQ, l1, y1, z1⟩, st⟩ := X.virtualBack hx (y := N.1) (z := N.1) hown (mvT hZ (hw _ wl)) (mvT hZ (hw _ wd)) (notFace_of_selects (args := #[]) (mvT hZ (hw _ ws))) (mvT hZ (hw _ ws)) (mvT hZ (hw _ wi)) wc.2.2 (backOf (W := W) (Q := fun v h L => Fr C.2.2.1 L ∧ ∃ G', Rep C.2.1 C.2.2.1 h G' ∧ QN v G') (hN hw T.heap hR []) hZ (hw _ wc.1) (hw _ wc.2.1) hr.1 hr.2.1) u1 u3 (g := mkF m pc L (as.reverse ++ .ref a :: S')) rfl (by rw [hml]; exact hsz) (Steps.refl _) (argsL := as) (rest := S') (ar.len rfl) rfl (by show 2 * 0 + _ ≤ _; omega) (hb hby d.1) (fun _ _ => ⟨rfl, rfl, hr.2.2.1, hr.2.2.2⟩)
  dsimp only [Pt.U, Pt.locs, Pt.cells, Pt.slots] at X1 l1 y1 z1 st hQ
  subst l1 y1 z1
  exact after_call hw hx hby hml hret hnm hown hZ hf hsz hF X1 hQ (by rw [hr0.2.2.1, hr0.2.2.2]; exact h) (fun t u => st.trans u)
theorem Runs.callP {QN : Option Value → AH → Prop} (d : DAt M pc (.invokevirtual idx) 3 q) (wl : Jvm.Cond.methodLink M.1.cls idx N.1 ∈ tables_1) (wi : Jvm.Cond.instanceMethod N.1 ∈ tables_1) (wp : Jvm.Cond.privateMethod N.1 ∈ tables_1) (wK : N.1.cls = K.1) (wc : code_w N) (ar : arity N as.length) (hr0 : room_ok M N W) (hfull : full_ok M k n) (hS : S = as.reverse ++ .ref a :: S') (hW : (S'.map fun v => v.category).sum = W)
    (hN : Pays C N (.ref a :: as) (top, (a, qq, ob) :: H) QN) (h : ∀ v G', QN v G' → Runs C M k n q P (v.toList ++ S') G' Q) : Runs C M k n pc P S (top, (a, qq, ob) :: H) Q := by
  intro hw p e s m args below meth c T locs L hx hby hml hret hnm hown hZ hf hsz X hR hF
  have hq := d.2
  subst hq hS
  have hr := hr0.al hfull
  obtain ⟨cl, u1, u2⟩ := hR.objs.2.2.1.cell
  have hpr : s.PrivateAt N.1 := Cond.privateMethod_at (mvP hZ (hw _ wp) (args := #[]))
  obtain ⟨c2, k2, i1, i2, i3, i4, -⟩ := Cond.instantiable_spec (mvT (args := args) hZ (hw _ kI))
  have hsel : (Jvm.Cond.selects N.1.cls N.1 N.1).before args s = true := Stand.selects_self_of_private (by rw [wK]; exact i1) i2 (by simp at i4; exact i4.1) hpr (mvT hZ (hw _ wi)) wc.2.2
  obtain ⟨_, _, ⟨T1, L1, k1, n1⟩, -, X1, ⟨Lc, hQ, l1, y1, z1⟩, st⟩ := X.privateBack hx (y := N.1) hown (mvT hZ (hw _ wl)) (mvT hZ (hw _ wi)) hsel hpr (mvT hZ (hw _ wc.1)) wc.2.2 (backOf (W := W) (Q := fun v h L => Fr C.2.2.1 L ∧ ∃ G', Rep C.2.1 C.2.2.1 h G' ∧ QN v G') (hN hw T.heap hR []) hZ (hw _ wc.1) (hw _ wc.2.1) hr.1 hr.2.1) (g := mkF m pc L (as.reverse ++ .ref a :: S')) rfl (by rw [hml]; exact hsz) (Steps.refl _) (a := a) u1 u2 (argsL := as) (rest := S') (ar.len rfl) rfl (by show 2 * 0 + _ ≤ _; omega) (hb hby d.1) (fun _ _ => ⟨rfl, rfl, hr.2.2.1, hr.2.2.2⟩)
  dsimp only [Pt.U, Pt.locs, Pt.cells, Pt.slots] at X1 l1 y1 z1 st hQ
  subst l1 y1 z1
  exact after_call hw hx hby hml hret hnm hown hZ hf hsz hF X1 hQ (by rw [hr0.2.2.1, hr0.2.2.2]; exact h) (fun t u => st.trans u)
theorem Runs.callI {QN : Option Value → AH → Prop} (d : DAt M pc (.invokespecial idx) 3 q) (hi : N.1.name = "<init>") (hn : N.2.2.2.1 = none) (wl : Jvm.Cond.methodLink M.1.cls idx N.1 ∈ tables_1) (wi : Jvm.Cond.instanceMethod N.1 ∈ tables_1) (wc : code_w N) (ar : arity N as.length) (hr : room_al M N W k n) (hS : S = as.reverse ++ .ref a :: S') (hW : (S'.map fun v => v.category).sum = W) {k' n' : Nat} (hk' : k + N.2.2.2.2.cells = k') (hn' : n + N.2.2.2.2.slots = n')
    (hN : Pays C N (.ref a :: as) G QN) (h : ∀ v G', QN v G' → Runs C M k' n' q P (v.toList ++ S') G' Q) : Runs C M k n pc P S G Q := by
  intro hw p e s m args below meth c T locs L hx hby hml hret hnm hown hZ hf hsz X hR hF
  have hq := d.2
  subst hq hS hk' hn'
  have wc1 := hw _ wc.1
  obtain ⟨_, _, ⟨T1, L1, k1, n1⟩, -, X1, ⟨Lc, hQ, l1, y1, z1⟩, st⟩ := X.specialBack hx (y := N.1) hi hown (mvT hZ (hw _ wl)) (mvT hZ (hw _ wi)) (bytes := N.2.1) (maxL := N.2.2.1) (by have := mvT (args := args) hZ wc1; rw [hn] at this; exact this) wc.2.2 (backOf (W := W) (Q := fun v h L => Fr C.2.2.1 L ∧ ∃ G', Rep C.2.1 C.2.2.1 h G' ∧ QN v G') (hN hw T.heap hR []) hZ wc1 (hw _ wc.2.1) hr.1 hr.2.1) (g := mkF m pc L (as.reverse ++ .ref a :: S')) rfl (by rw [hml]; exact hsz) (Steps.refl _) (a := a) (argsL := as) (rest := S') (ar.len rfl) rfl (by show 2 * 0 + _ ≤ _; omega) (hb hby d.1) (fun _ _ => ⟨rfl, rfl, hr.2.2.1, hr.2.2.2⟩)
  dsimp only [Pt.U, Pt.locs, Pt.cells, Pt.slots] at X1 l1 y1 z1 st hQ
  subst l1 y1 z1
  exact after_call hw hx hby hml hret hnm hown hZ hf hsz hF X1 hQ h (fun t u => st.trans u)
/-- the plain form of a contract: one answer, one heap -/
abbrev Ans (r : Option Value) (G1 : AH) : Option Value → AH → Prop := fun v G' => v = r ∧ G' = G1
theorem ans1 {x : Value} {k n : Nat} (h : Runs C M k n pc P (x :: S) G1 Q) : ∀ v G', Ans (some x) G1 v G' → Runs C M k n pc P (v.toList ++ S) G' Q := by
  rintro v G' ⟨rfl, rfl⟩; exact h
theorem ans0 {k n : Nat} (h : Runs C M k n pc P S G1 Q) : ∀ v G', Ans none G1 v G' → Runs C M k n pc P (v.toList ++ S) G' Q := by
  rintro v G' ⟨rfl, rfl⟩; exact h
end Calls
theorem pnK : plainName "CausalStable" = true := by first | (simp [plainName, overriddenIn]; done) | decide +kernel
theorem pnL : plainName "CausalStableL3" = true := by first | (simp [plainName, overriddenIn]; done) | decide +kernel
theorem w0 : (Jvm.Cond.classLink "CausalStableL3" (7 : Nat) "CausalStable") ∈ tables_1 := mem1 0 rfl
theorem w3 : (Jvm.Cond.methodLink "CausalStableL3" (9 : Nat) ({ cls := "CausalStable", name := "<init>", desc := "(II)V" } : Jvm.MethodName)) ∈ tables_1 := mem1 3 rfl
theorem w4 : (Jvm.Cond.instanceMethod ({ cls := "CausalStable", name := "<init>", desc := "(II)V" } : Jvm.MethodName)) ∈ tables_1 := mem1 4 rfl
theorem w6 : (Jvm.Cond.methodLink "CausalStable" (1 : Nat) ({ cls := "java/lang/Object", name := "<init>", desc := "()V" } : Jvm.MethodName)) ∈ tables_1 := mem1 6 rfl
theorem w7 : (Jvm.Cond.instanceMethod ({ cls := "java/lang/Object", name := "<init>", desc := "()V" } : Jvm.MethodName)) ∈ tables_1 := mem1 7 rfl
theorem w8 : (Jvm.Cond.code ({ cls := "java/lang/Object", name := "<init>", desc := "()V" } : Jvm.MethodName) object_method_1_code (1 : Nat) (Option.none : Option Jvm.ClassFile.FieldType)) ∈ tables_1 := mem1 8 rfl
theorem w9 : (Jvm.Cond.arrayClass Jvm.ClassFile.FieldType.int) ∈ tables_1 := mem1 9 rfl
theorem w10 : (Jvm.Cond.fieldLink "CausalStable" (7 : Nat) "CausalStable" "sentCount" "[I") ∈ tables_1 := mem1 10 rfl
theorem w11 : (Jvm.Cond.lays "CausalStable" "CausalStable" "sentCount" "[I") ∈ tables_1 := mem1 11 rfl
theorem w12 : (Jvm.Cond.arrayClass Jvm.ClassFile.FieldType.boolean) ∈ tables_1 := mem1 12 rfl
theorem w13 : (Jvm.Cond.fieldLink "CausalStable" (13 : Nat) "CausalStable" "crashedFlag" "[Z") ∈ tables_1 := mem1 13 rfl
theorem w14 : (Jvm.Cond.lays "CausalStable" "CausalStable" "crashedFlag" "[Z") ∈ tables_1 := mem1 14 rfl
theorem w15 : (Jvm.Cond.fieldLink "CausalStable" (17 : Nat) "CausalStable" "del" "[I") ∈ tables_1 := mem1 15 rfl
theorem w16 : (Jvm.Cond.lays "CausalStable" "CausalStable" "del" "[I") ∈ tables_1 := mem1 16 rfl
theorem w17 : (Jvm.Cond.fieldLink "CausalStable" (20 : Nat) "CausalStable" "msgState" "[I") ∈ tables_1 := mem1 17 rfl
theorem w18 : (Jvm.Cond.lays "CausalStable" "CausalStable" "msgState" "[I") ∈ tables_1 := mem1 18 rfl
theorem w19 : (Jvm.Cond.fieldLink "CausalStable" (23 : Nat) "CausalStable" "stampArr" "[I") ∈ tables_1 := mem1 19 rfl
theorem w20 : (Jvm.Cond.lays "CausalStable" "CausalStable" "stampArr" "[I") ∈ tables_1 := mem1 20 rfl
theorem w21 : (Jvm.Cond.fieldLink "CausalStable" (26 : Nat) "CausalStable" "copyArr" "[I") ∈ tables_1 := mem1 21 rfl
theorem w22 : (Jvm.Cond.lays "CausalStable" "CausalStable" "copyArr" "[I") ∈ tables_1 := mem1 22 rfl
theorem w23 : (Jvm.Cond.fieldLink "CausalStable" (29 : Nat) "CausalStable" "known" "[I") ∈ tables_1 := mem1 23 rfl
theorem w24 : (Jvm.Cond.lays "CausalStable" "CausalStable" "known" "[I") ∈ tables_1 := mem1 24 rfl
theorem w25 : (Jvm.Cond.fieldLink "CausalStable" (32 : Nat) "CausalStable" "list" "[I") ∈ tables_1 := mem1 25 rfl
theorem w26 : (Jvm.Cond.lays "CausalStable" "CausalStable" "list" "[I") ∈ tables_1 := mem1 26 rfl
theorem w27 : (Jvm.Cond.fieldLink "CausalStable" (35 : Nat) "CausalStable" "listLen" "[I") ∈ tables_1 := mem1 27 rfl
theorem w28 : (Jvm.Cond.lays "CausalStable" "CausalStable" "listLen" "[I") ∈ tables_1 := mem1 28 rfl
theorem w29 : (Jvm.Cond.fieldLink "CausalStable" (38 : Nat) "CausalStable" "n" "I") ∈ tables_1 := mem1 29 rfl
theorem w30 : (Jvm.Cond.lays "CausalStable" "CausalStable" "n" "I") ∈ tables_1 := mem1 30 rfl
theorem w31 : (Jvm.Cond.fieldLink "CausalStable" (42 : Nat) "CausalStable" "cap" "I") ∈ tables_1 := mem1 31 rfl
theorem w32 : (Jvm.Cond.lays "CausalStable" "CausalStable" "cap" "I") ∈ tables_1 := mem1 32 rfl
theorem w33 : (Jvm.Cond.methodLink "CausalStableL3" (12 : Nat) ({ cls := "CausalStable", name := "broadcast", desc := "(I)I" } : Jvm.MethodName)) ∈ tables_1 := mem1 33 rfl
theorem w34 : (Jvm.Cond.declares ({ cls := "CausalStable", name := "broadcast", desc := "(I)I" } : Jvm.MethodName)) ∈ tables_1 := mem1 34 rfl
theorem w35 : (Jvm.Cond.instanceMethod ({ cls := "CausalStable", name := "broadcast", desc := "(I)I" } : Jvm.MethodName)) ∈ tables_1 := mem1 35 rfl
theorem w36 : (Jvm.Cond.selects "CausalStable" ({ cls := "CausalStable", name := "broadcast", desc := "(I)I" } : Jvm.MethodName) ({ cls := "CausalStable", name := "broadcast", desc := "(I)I" } : Jvm.MethodName)) ∈ tables_1 := mem1 36 rfl
theorem w38 : (Jvm.Cond.methodLink "CausalStable" (68 : Nat) ({ cls := "CausalStable", name := "validProc", desc := "(I)Z" } : Jvm.MethodName)) ∈ tables_1 := mem1 38 rfl
theorem w39 : (Jvm.Cond.instanceMethod ({ cls := "CausalStable", name := "validProc", desc := "(I)Z" } : Jvm.MethodName)) ∈ tables_1 := mem1 39 rfl
theorem w40 : (Jvm.Cond.privateMethod ({ cls := "CausalStable", name := "validProc", desc := "(I)Z" } : Jvm.MethodName)) ∈ tables_1 := mem1 40 rfl
theorem w42 : (Jvm.Cond.methodLink "CausalStable" (56 : Nat) ({ cls := "CausalStable", name := "msgIndex", desc := "(II)I" } : Jvm.MethodName)) ∈ tables_1 := mem1 42 rfl
theorem w43 : (Jvm.Cond.instanceMethod ({ cls := "CausalStable", name := "msgIndex", desc := "(II)I" } : Jvm.MethodName)) ∈ tables_1 := mem1 43 rfl
theorem w44 : (Jvm.Cond.privateMethod ({ cls := "CausalStable", name := "msgIndex", desc := "(II)I" } : Jvm.MethodName)) ∈ tables_1 := mem1 44 rfl
theorem w46 : (Jvm.Cond.methodLink "CausalStable" (64 : Nat) ({ cls := "CausalStable", name := "deliverAt", desc := "(III)V" } : Jvm.MethodName)) ∈ tables_1 := mem1 46 rfl
theorem w47 : (Jvm.Cond.instanceMethod ({ cls := "CausalStable", name := "deliverAt", desc := "(III)V" } : Jvm.MethodName)) ∈ tables_1 := mem1 47 rfl
theorem w48 : (Jvm.Cond.privateMethod ({ cls := "CausalStable", name := "deliverAt", desc := "(III)V" } : Jvm.MethodName)) ∈ tables_1 := mem1 48 rfl
theorem w50 : (Jvm.Cond.methodLink "CausalStable" (45 : Nat) ({ cls := "CausalStable", name := "stateIndex", desc := "(III)I" } : Jvm.MethodName)) ∈ tables_1 := mem1 50 rfl
theorem w51 : (Jvm.Cond.instanceMethod ({ cls := "CausalStable", name := "stateIndex", desc := "(III)I" } : Jvm.MethodName)) ∈ tables_1 := mem1 51 rfl
theorem w52 : (Jvm.Cond.privateMethod ({ cls := "CausalStable", name := "stateIndex", desc := "(III)I" } : Jvm.MethodName)) ∈ tables_1 := mem1 52 rfl
theorem w54 : (Jvm.Cond.methodLink "CausalStable" (49 : Nat) ({ cls := "CausalStable", name := "knownIndex", desc := "(III)I" } : Jvm.MethodName)) ∈ tables_1 := mem1 54 rfl
theorem w55 : (Jvm.Cond.instanceMethod ({ cls := "CausalStable", name := "knownIndex", desc := "(III)I" } : Jvm.MethodName)) ∈ tables_1 := mem1 55 rfl
theorem w56 : (Jvm.Cond.privateMethod ({ cls := "CausalStable", name := "knownIndex", desc := "(III)I" } : Jvm.MethodName)) ∈ tables_1 := mem1 56 rfl
theorem w58 : (Jvm.Cond.methodLink "CausalStableL3" (16 : Nat) ({ cls := "CausalStable", name := "receive", desc := "(III)I" } : Jvm.MethodName)) ∈ tables_1 := mem1 58 rfl
theorem w59 : (Jvm.Cond.declares ({ cls := "CausalStable", name := "receive", desc := "(III)I" } : Jvm.MethodName)) ∈ tables_1 := mem1 59 rfl
theorem w60 : (Jvm.Cond.instanceMethod ({ cls := "CausalStable", name := "receive", desc := "(III)I" } : Jvm.MethodName)) ∈ tables_1 := mem1 60 rfl
theorem w61 : (Jvm.Cond.selects "CausalStable" ({ cls := "CausalStable", name := "receive", desc := "(III)I" } : Jvm.MethodName) ({ cls := "CausalStable", name := "receive", desc := "(III)I" } : Jvm.MethodName)) ∈ tables_1 := mem1 61 rfl
theorem w63 : (Jvm.Cond.methodLink "CausalStable" (52 : Nat) ({ cls := "CausalStable", name := "exists", desc := "(II)Z" } : Jvm.MethodName)) ∈ tables_1 := mem1 63 rfl
theorem w64 : (Jvm.Cond.instanceMethod ({ cls := "CausalStable", name := "exists", desc := "(II)Z" } : Jvm.MethodName)) ∈ tables_1 := mem1 64 rfl
theorem w65 : (Jvm.Cond.privateMethod ({ cls := "CausalStable", name := "exists", desc := "(II)Z" } : Jvm.MethodName)) ∈ tables_1 := mem1 65 rfl
theorem w67 : (Jvm.Cond.methodLink "CausalStable" (72 : Nat) ({ cls := "CausalStable", name := "copyIndex", desc := "(III)I" } : Jvm.MethodName)) ∈ tables_1 := mem1 67 rfl
theorem w68 : (Jvm.Cond.instanceMethod ({ cls := "CausalStable", name := "copyIndex", desc := "(III)I" } : Jvm.MethodName)) ∈ tables_1 := mem1 68 rfl
theorem w69 : (Jvm.Cond.privateMethod ({ cls := "CausalStable", name := "copyIndex", desc := "(III)I" } : Jvm.MethodName)) ∈ tables_1 := mem1 69 rfl
theorem w71 : (Jvm.Cond.methodLink "CausalStable" (75 : Nat) ({ cls := "CausalStable", name := "cascade", desc := "(I)I" } : Jvm.MethodName)) ∈ tables_1 := mem1 71 rfl
theorem w72 : (Jvm.Cond.instanceMethod ({ cls := "CausalStable", name := "cascade", desc := "(I)I" } : Jvm.MethodName)) ∈ tables_1 := mem1 72 rfl
theorem w73 : (Jvm.Cond.privateMethod ({ cls := "CausalStable", name := "cascade", desc := "(I)I" } : Jvm.MethodName)) ∈ tables_1 := mem1 73 rfl
theorem w75 : (Jvm.Cond.methodLink "CausalStable" (60 : Nat) ({ cls := "CausalStable", name := "isDeliverable", desc := "(III)Z" } : Jvm.MethodName)) ∈ tables_1 := mem1 75 rfl
theorem w76 : (Jvm.Cond.instanceMethod ({ cls := "CausalStable", name := "isDeliverable", desc := "(III)Z" } : Jvm.MethodName)) ∈ tables_1 := mem1 76 rfl
theorem w77 : (Jvm.Cond.privateMethod ({ cls := "CausalStable", name := "isDeliverable", desc := "(III)Z" } : Jvm.MethodName)) ∈ tables_1 := mem1 77 rfl
theorem w79 : (Jvm.Cond.methodLink "CausalStableL3" (20 : Nat) ({ cls := "CausalStable", name := "deliveredAt", desc := "(II)I" } : Jvm.MethodName)) ∈ tables_1 := mem1 79 rfl
theorem w80 : (Jvm.Cond.declares ({ cls := "CausalStable", name := "deliveredAt", desc := "(II)I" } : Jvm.MethodName)) ∈ tables_1 := mem1 80 rfl
theorem w81 : (Jvm.Cond.instanceMethod ({ cls := "CausalStable", name := "deliveredAt", desc := "(II)I" } : Jvm.MethodName)) ∈ tables_1 := mem1 81 rfl
theorem w82 : (Jvm.Cond.selects "CausalStable" ({ cls := "CausalStable", name := "deliveredAt", desc := "(II)I" } : Jvm.MethodName) ({ cls := "CausalStable", name := "deliveredAt", desc := "(II)I" } : Jvm.MethodName)) ∈ tables_1 := mem1 82 rfl
theorem w84 : (Jvm.Cond.methodLink "CausalStableL3" (24 : Nat) ({ cls := "CausalStable", name := "stamp", desc := "(III)I" } : Jvm.MethodName)) ∈ tables_1 := mem1 84 rfl
theorem w85 : (Jvm.Cond.declares ({ cls := "CausalStable", name := "stamp", desc := "(III)I" } : Jvm.MethodName)) ∈ tables_1 := mem1 85 rfl
theorem w86 : (Jvm.Cond.instanceMethod ({ cls := "CausalStable", name := "stamp", desc := "(III)I" } : Jvm.MethodName)) ∈ tables_1 := mem1 86 rfl
theorem w87 : (Jvm.Cond.selects "CausalStable" ({ cls := "CausalStable", name := "stamp", desc := "(III)I" } : Jvm.MethodName) ({ cls := "CausalStable", name := "stamp", desc := "(III)I" } : Jvm.MethodName)) ∈ tables_1 := mem1 87 rfl
theorem w89 : (Jvm.Cond.methodLink "CausalStableL3" (27 : Nat) ({ cls := "CausalStable", name := "state", desc := "(III)I" } : Jvm.MethodName)) ∈ tables_1 := mem1 89 rfl
theorem w90 : (Jvm.Cond.declares ({ cls := "CausalStable", name := "state", desc := "(III)I" } : Jvm.MethodName)) ∈ tables_1 := mem1 90 rfl
theorem w91 : (Jvm.Cond.instanceMethod ({ cls := "CausalStable", name := "state", desc := "(III)I" } : Jvm.MethodName)) ∈ tables_1 := mem1 91 rfl
theorem w92 : (Jvm.Cond.selects "CausalStable" ({ cls := "CausalStable", name := "state", desc := "(III)I" } : Jvm.MethodName) ({ cls := "CausalStable", name := "state", desc := "(III)I" } : Jvm.MethodName)) ∈ tables_1 := mem1 92 rfl
theorem w94 : (Jvm.Cond.methodLink "CausalStableL3" (30 : Nat) ({ cls := "CausalStable", name := "delivered", desc := "(II)I" } : Jvm.MethodName)) ∈ tables_1 := mem1 94 rfl
theorem w95 : (Jvm.Cond.declares ({ cls := "CausalStable", name := "delivered", desc := "(II)I" } : Jvm.MethodName)) ∈ tables_1 := mem1 95 rfl
theorem w96 : (Jvm.Cond.instanceMethod ({ cls := "CausalStable", name := "delivered", desc := "(II)I" } : Jvm.MethodName)) ∈ tables_1 := mem1 96 rfl
theorem w97 : (Jvm.Cond.selects "CausalStable" ({ cls := "CausalStable", name := "delivered", desc := "(II)I" } : Jvm.MethodName) ({ cls := "CausalStable", name := "delivered", desc := "(II)I" } : Jvm.MethodName)) ∈ tables_1 := mem1 97 rfl
theorem w99 : (Jvm.Cond.methodLink "CausalStableL3" (33 : Nat) ({ cls := "CausalStable", name := "known", desc := "(III)I" } : Jvm.MethodName)) ∈ tables_1 := mem1 99 rfl
theorem w100 : (Jvm.Cond.declares ({ cls := "CausalStable", name := "known", desc := "(III)I" } : Jvm.MethodName)) ∈ tables_1 := mem1 100 rfl
theorem w101 : (Jvm.Cond.instanceMethod ({ cls := "CausalStable", name := "known", desc := "(III)I" } : Jvm.MethodName)) ∈ tables_1 := mem1 101 rfl
theorem w102 : (Jvm.Cond.selects "CausalStable" ({ cls := "CausalStable", name := "known", desc := "(III)I" } : Jvm.MethodName) ({ cls := "CausalStable", name := "known", desc := "(III)I" } : Jvm.MethodName)) ∈ tables_1 := mem1 102 rfl
theorem w104 : (Jvm.Cond.methodLink "CausalStableL3" (36 : Nat) ({ cls := "CausalStable", name := "copies", desc := "(III)I" } : Jvm.MethodName)) ∈ tables_1 := mem1 104 rfl
theorem w105 : (Jvm.Cond.declares ({ cls := "CausalStable", name := "copies", desc := "(III)I" } : Jvm.MethodName)) ∈ tables_1 := mem1 105 rfl
theorem w106 : (Jvm.Cond.instanceMethod ({ cls := "CausalStable", name := "copies", desc := "(III)I" } : Jvm.MethodName)) ∈ tables_1 := mem1 106 rfl
theorem w107 : (Jvm.Cond.selects "CausalStable" ({ cls := "CausalStable", name := "copies", desc := "(III)I" } : Jvm.MethodName) ({ cls := "CausalStable", name := "copies", desc := "(III)I" } : Jvm.MethodName)) ∈ tables_1 := mem1 107 rfl
theorem fS_0 : K.2.1[0]? = some ("n", "I") := rfl
theorem fS_1 : K.2.1[1]? = some ("cap", "I") := rfl
theorem fA_0 : K.2.2[0]? = some ("sentCount", .int, (8 : Int32)) := rfl
theorem fA_1 : K.2.2[1]? = some ("crashedFlag", .boolean, (8 : Int32)) := rfl
theorem fA_2 : K.2.2[2]? = some ("del", .int, (64 : Int32)) := rfl
theorem fA_3 : K.2.2[3]? = some ("msgState", .int, (512 : Int32)) := rfl
theorem fA_4 : K.2.2[4]? = some ("stampArr", .int, (512 : Int32)) := rfl
theorem fA_5 : K.2.2[5]? = some ("copyArr", .int, (512 : Int32)) := rfl
theorem fA_6 : K.2.2[6]? = some ("known", .int, (512 : Int32)) := rfl
theorem fA_7 : K.2.2[7]? = some ("list", .int, (512 : Int32)) := rfl
theorem fA_8 : K.2.2[8]? = some ("listLen", .int, (8 : Int32)) := rfl
theorem cb_m5 : (Int8.ofInt (-5)).toInt32 = (-5 : Int32) := by decide
theorem cb_m4 : (Int8.ofInt (-4)).toInt32 = (-4 : Int32) := by decide
theorem cb_m3 : (Int8.ofInt (-3)).toInt32 = (-3 : Int32) := by decide
theorem cb_m2 : (Int8.ofInt (-2)).toInt32 = (-2 : Int32) := by decide
theorem cb_6 : (Int8.ofInt 6).toInt32 = (6 : Int32) := by decide
theorem cb_7 : (Int8.ofInt 7).toInt32 = (7 : Int32) := by decide
theorem cb_8 : (Int8.ofInt 8).toInt32 = (8 : Int32) := by decide
theorem cb_16 : (Int8.ofInt 16).toInt32 = (16 : Int32) := by decide
theorem cb_64 : (Int8.ofInt 64).toInt32 = (64 : Int32) := by decide
theorem cb_65 : (Int8.ofInt 65).toInt32 = (65 : Int32) := by decide
theorem ci_m1 : Int32.ofInt (-1) = (-1 : Int32) := by decide
theorem ci_0 : Int32.ofInt 0 = (0 : Int32) := by decide
theorem ci_1 : Int32.ofInt 1 = (1 : Int32) := by decide
theorem ci_2 : Int32.ofInt 2 = (2 : Int32) := by decide
theorem cs_512 : (Int16.ofInt 512).toInt32 = (512 : Int32) := by decide
def B1 : Bdy := ((⟨"CausalStable", "<init>", "(II)V"⟩ : MethodName), prog_1_method_1_code, 5, none, ({ frames := 1, cells := 9, slots := 2648, locals := 12 } : Room))
theorem d1_0 : DAt B1 0 (.aload_n 0) 1 1 := ⟨by decide +kernel, rfl⟩
theorem d1_1 : DAt B1 1 (.invokespecial 1) 3 4 := ⟨by decide +kernel, rfl⟩
theorem d1_4 : DAt B1 4 (.aload_n 0) 1 5 := ⟨by decide +kernel, rfl⟩
theorem d1_5 : DAt B1 5 (.bipush 8) 2 7 := ⟨by decide +kernel, rfl⟩
theorem d1_7 : DAt B1 7 (.newarray .int) 2 9 := ⟨by decide +kernel, rfl⟩
theorem d1_9 : DAt B1 9 (.putfield 7) 3 12 := ⟨by decide +kernel, rfl⟩
theorem d1_12 : DAt B1 12 (.aload_n 0) 1 13 := ⟨by decide +kernel, rfl⟩
theorem d1_13 : DAt B1 13 (.bipush 8) 2 15 := ⟨by decide +kernel, rfl⟩
theorem d1_15 : DAt B1 15 (.newarray .boolean) 2 17 := ⟨by decide +kernel, rfl⟩
theorem d1_17 : DAt B1 17 (.putfield 13) 3 20 := ⟨by decide +kernel, rfl⟩
theorem d1_20 : DAt B1 20 (.aload_n 0) 1 21 := ⟨by decide +kernel, rfl⟩
theorem d1_21 : DAt B1 21 (.bipush 64) 2 23 := ⟨by decide +kernel, rfl⟩
theorem d1_23 : DAt B1 23 (.newarray .int) 2 25 := ⟨by decide +kernel, rfl⟩
theorem d1_25 : DAt B1 25 (.putfield 17) 3 28 := ⟨by decide +kernel, rfl⟩
theorem d1_28 : DAt B1 28 (.aload_n 0) 1 29 := ⟨by decide +kernel, rfl⟩
theorem d1_29 : DAt B1 29 (.sipush 512) 3 32 := ⟨by decide +kernel, rfl⟩
theorem d1_32 : DAt B1 32 (.newarray .int) 2 34 := ⟨by decide +kernel, rfl⟩
theorem d1_34 : DAt B1 34 (.putfield 20) 3 37 := ⟨by decide +kernel, rfl⟩
theorem d1_37 : DAt B1 37 (.aload_n 0) 1 38 := ⟨by decide +kernel, rfl⟩
theorem d1_38 : DAt B1 38 (.sipush 512) 3 41 := ⟨by decide +kernel, rfl⟩
theorem d1_41 : DAt B1 41 (.newarray .int) 2 43 := ⟨by decide +kernel, rfl⟩
theorem d1_43 : DAt B1 43 (.putfield 23) 3 46 := ⟨by decide +kernel, rfl⟩
theorem d1_46 : DAt B1 46 (.aload_n 0) 1 47 := ⟨by decide +kernel, rfl⟩
theorem d1_47 : DAt B1 47 (.sipush 512) 3 50 := ⟨by decide +kernel, rfl⟩
theorem d1_50 : DAt B1 50 (.newarray .int) 2 52 := ⟨by decide +kernel, rfl⟩
theorem d1_52 : DAt B1 52 (.putfield 26) 3 55 := ⟨by decide +kernel, rfl⟩
theorem d1_55 : DAt B1 55 (.aload_n 0) 1 56 := ⟨by decide +kernel, rfl⟩
theorem d1_56 : DAt B1 56 (.sipush 512) 3 59 := ⟨by decide +kernel, rfl⟩
theorem d1_59 : DAt B1 59 (.newarray .int) 2 61 := ⟨by decide +kernel, rfl⟩
theorem d1_61 : DAt B1 61 (.putfield 29) 3 64 := ⟨by decide +kernel, rfl⟩
theorem d1_64 : DAt B1 64 (.aload_n 0) 1 65 := ⟨by decide +kernel, rfl⟩
theorem d1_65 : DAt B1 65 (.sipush 512) 3 68 := ⟨by decide +kernel, rfl⟩
theorem d1_68 : DAt B1 68 (.newarray .int) 2 70 := ⟨by decide +kernel, rfl⟩
theorem d1_70 : DAt B1 70 (.putfield 32) 3 73 := ⟨by decide +kernel, rfl⟩
theorem d1_73 : DAt B1 73 (.aload_n 0) 1 74 := ⟨by decide +kernel, rfl⟩
theorem d1_74 : DAt B1 74 (.bipush 8) 2 76 := ⟨by decide +kernel, rfl⟩
theorem d1_76 : DAt B1 76 (.newarray .int) 2 78 := ⟨by decide +kernel, rfl⟩
theorem d1_78 : DAt B1 78 (.putfield 35) 3 81 := ⟨by decide +kernel, rfl⟩
theorem d1_81 : DAt B1 81 (.iload_n 1) 1 82 := ⟨by decide +kernel, rfl⟩
theorem d1_82 : DAt B1 82 (.istore_n 3) 1 83 := ⟨by decide +kernel, rfl⟩
theorem d1_83 : DAt B1 83 (.iload_n 3) 1 84 := ⟨by decide +kernel, rfl⟩
theorem d1_84 : DAt B1 84 (.iconst 2) 1 85 := ⟨by decide +kernel, rfl⟩
theorem d1_85 : DAt B1 85 (.if_icmp .ge 5) 3 88 := ⟨by decide +kernel, rfl⟩
theorem d1_88 : DAt B1 88 (.iconst 2) 1 89 := ⟨by decide +kernel, rfl⟩
theorem d1_89 : DAt B1 89 (.istore_n 3) 1 90 := ⟨by decide +kernel, rfl⟩
theorem d1_90 : DAt B1 90 (.iload_n 3) 1 91 := ⟨by decide +kernel, rfl⟩
theorem d1_91 : DAt B1 91 (.bipush 8) 2 93 := ⟨by decide +kernel, rfl⟩
theorem d1_93 : DAt B1 93 (.if_icmp .le 6) 3 96 := ⟨by decide +kernel, rfl⟩
theorem d1_96 : DAt B1 96 (.bipush 8) 2 98 := ⟨by decide +kernel, rfl⟩
theorem d1_98 : DAt B1 98 (.istore_n 3) 1 99 := ⟨by decide +kernel, rfl⟩
theorem d1_99 : DAt B1 99 (.aload_n 0) 1 100 := ⟨by decide +kernel, rfl⟩
theorem d1_100 : DAt B1 100 (.iload_n 3) 1 101 := ⟨by decide +kernel, rfl⟩
theorem d1_101 : DAt B1 101 (.putfield 38) 3 104 := ⟨by decide +kernel, rfl⟩
theorem d1_104 : DAt B1 104 (.iload_n 2) 1 105 := ⟨by decide +kernel, rfl⟩
theorem d1_105 : DAt B1 105 (.istore 4) 2 107 := ⟨by decide +kernel, rfl⟩
theorem d1_107 : DAt B1 107 (.iload 4) 2 109 := ⟨by decide +kernel, rfl⟩
theorem d1_109 : DAt B1 109 (.iconst 1) 1 110 := ⟨by decide +kernel, rfl⟩
theorem d1_110 : DAt B1 110 (.if_icmp .ge 6) 3 113 := ⟨by decide +kernel, rfl⟩
theorem d1_113 : DAt B1 113 (.iconst 1) 1 114 := ⟨by decide +kernel, rfl⟩
theorem d1_114 : DAt B1 114 (.istore 4) 2 116 := ⟨by decide +kernel, rfl⟩
theorem d1_116 : DAt B1 116 (.iload 4) 2 118 := ⟨by decide +kernel, rfl⟩
theorem d1_118 : DAt B1 118 (.bipush 8) 2 120 := ⟨by decide +kernel, rfl⟩
theorem d1_120 : DAt B1 120 (.if_icmp .le 7) 3 123 := ⟨by decide +kernel, rfl⟩
theorem d1_123 : DAt B1 123 (.bipush 8) 2 125 := ⟨by decide +kernel, rfl⟩
theorem d1_125 : DAt B1 125 (.istore 4) 2 127 := ⟨by decide +kernel, rfl⟩
theorem d1_127 : DAt B1 127 (.aload_n 0) 1 128 := ⟨by decide +kernel, rfl⟩
theorem d1_128 : DAt B1 128 (.iload 4) 2 130 := ⟨by decide +kernel, rfl⟩
theorem d1_130 : DAt B1 130 (.putfield 42) 3 133 := ⟨by decide +kernel, rfl⟩
theorem d1_133 : DAt B1 133 (.return_) 1 134 := ⟨by decide +kernel, rfl⟩
def B3 : Bdy := ((⟨"CausalStable", "validProc", "(I)Z"⟩ : MethodName), prog_1_method_2_code, 2, (some .boolean), ({ frames := 0, cells := 0, slots := 0, locals := 0 } : Room))
theorem d3_0 : DAt B3 0 (.iload_n 1) 1 1 := ⟨by decide +kernel, rfl⟩
theorem d3_1 : DAt B3 1 (.ifCond .lt 15) 3 4 := ⟨by decide +kernel, rfl⟩
theorem d3_4 : DAt B3 4 (.iload_n 1) 1 5 := ⟨by decide +kernel, rfl⟩
theorem d3_5 : DAt B3 5 (.aload_n 0) 1 6 := ⟨by decide +kernel, rfl⟩
theorem d3_6 : DAt B3 6 (.getfield 38) 3 9 := ⟨by decide +kernel, rfl⟩
theorem d3_9 : DAt B3 9 (.if_icmp .ge 7) 3 12 := ⟨by decide +kernel, rfl⟩
theorem d3_12 : DAt B3 12 (.iconst 1) 1 13 := ⟨by decide +kernel, rfl⟩
theorem d3_13 : DAt B3 13 (.goto 4) 3 16 := ⟨by decide +kernel, rfl⟩
theorem d3_16 : DAt B3 16 (.iconst 0) 1 17 := ⟨by decide +kernel, rfl⟩
theorem d3_17 : DAt B3 17 (.ireturn) 1 18 := ⟨by decide +kernel, rfl⟩
def B4 : Bdy := ((⟨"CausalStable", "msgIndex", "(II)I"⟩ : MethodName), prog_1_method_4_code, 3, (some .int), ({ frames := 0, cells := 0, slots := 0, locals := 0 } : Room))
theorem d4_0 : DAt B4 0 (.iload_n 1) 1 1 := ⟨by decide +kernel, rfl⟩
theorem d4_1 : DAt B4 1 (.bipush 8) 2 3 := ⟨by decide +kernel, rfl⟩
theorem d4_3 : DAt B4 3 (.imul) 1 4 := ⟨by decide +kernel, rfl⟩
theorem d4_4 : DAt B4 4 (.iload_n 2) 1 5 := ⟨by decide +kernel, rfl⟩
theorem d4_5 : DAt B4 5 (.iadd) 1 6 := ⟨by decide +kernel, rfl⟩
theorem d4_6 : DAt B4 6 (.iconst 1) 1 7 := ⟨by decide +kernel, rfl⟩
theorem d4_7 : DAt B4 7 (.isub) 1 8 := ⟨by decide +kernel, rfl⟩
theorem d4_8 : DAt B4 8 (.ireturn) 1 9 := ⟨by decide +kernel, rfl⟩
def B6 : Bdy := ((⟨"CausalStable", "stateIndex", "(III)I"⟩ : MethodName), prog_1_method_5_code, 4, (some .int), ({ frames := 0, cells := 0, slots := 0, locals := 0 } : Room))
theorem d6_0 : DAt B6 0 (.iload_n 1) 1 1 := ⟨by decide +kernel, rfl⟩
theorem d6_1 : DAt B6 1 (.bipush 64) 2 3 := ⟨by decide +kernel, rfl⟩
theorem d6_3 : DAt B6 3 (.imul) 1 4 := ⟨by decide +kernel, rfl⟩
theorem d6_4 : DAt B6 4 (.iload_n 2) 1 5 := ⟨by decide +kernel, rfl⟩
theorem d6_5 : DAt B6 5 (.bipush 8) 2 7 := ⟨by decide +kernel, rfl⟩
theorem d6_7 : DAt B6 7 (.imul) 1 8 := ⟨by decide +kernel, rfl⟩
theorem d6_8 : DAt B6 8 (.iadd) 1 9 := ⟨by decide +kernel, rfl⟩
theorem d6_9 : DAt B6 9 (.iload_n 3) 1 10 := ⟨by decide +kernel, rfl⟩
theorem d6_10 : DAt B6 10 (.iadd) 1 11 := ⟨by decide +kernel, rfl⟩
theorem d6_11 : DAt B6 11 (.iconst 1) 1 12 := ⟨by decide +kernel, rfl⟩
theorem d6_12 : DAt B6 12 (.isub) 1 13 := ⟨by decide +kernel, rfl⟩
theorem d6_13 : DAt B6 13 (.ireturn) 1 14 := ⟨by decide +kernel, rfl⟩
def B7 : Bdy := ((⟨"CausalStable", "knownIndex", "(III)I"⟩ : MethodName), prog_1_method_7_code, 4, (some .int), ({ frames := 0, cells := 0, slots := 0, locals := 0 } : Room))
theorem d7_0 : DAt B7 0 (.iload_n 1) 1 1 := ⟨by decide +kernel, rfl⟩
theorem d7_1 : DAt B7 1 (.bipush 64) 2 3 := ⟨by decide +kernel, rfl⟩
theorem d7_3 : DAt B7 3 (.imul) 1 4 := ⟨by decide +kernel, rfl⟩
theorem d7_4 : DAt B7 4 (.iload_n 2) 1 5 := ⟨by decide +kernel, rfl⟩
theorem d7_5 : DAt B7 5 (.bipush 8) 2 7 := ⟨by decide +kernel, rfl⟩
theorem d7_7 : DAt B7 7 (.imul) 1 8 := ⟨by decide +kernel, rfl⟩
theorem d7_8 : DAt B7 8 (.iadd) 1 9 := ⟨by decide +kernel, rfl⟩
theorem d7_9 : DAt B7 9 (.iload_n 3) 1 10 := ⟨by decide +kernel, rfl⟩
theorem d7_10 : DAt B7 10 (.iadd) 1 11 := ⟨by decide +kernel, rfl⟩
theorem d7_11 : DAt B7 11 (.ireturn) 1 12 := ⟨by decide +kernel, rfl⟩
def B5 : Bdy := ((⟨"CausalStable", "deliverAt", "(III)V"⟩ : MethodName), prog_1_method_8_code, 7, none, ({ frames := 1, cells := 0, slots := 0, locals := 15 } : Room))
theorem d5_0 : DAt B5 0 (.aload_n 0) 1 1 := ⟨by decide +kernel, rfl⟩
theorem d5_1 : DAt B5 1 (.iload_n 1) 1 2 := ⟨by decide +kernel, rfl⟩
theorem d5_2 : DAt B5 2 (.iload_n 2) 1 3 := ⟨by decide +kernel, rfl⟩
theorem d5_3 : DAt B5 3 (.iload_n 3) 1 4 := ⟨by decide +kernel, rfl⟩
theorem d5_4 : DAt B5 4 (.invokevirtual 45) 3 7 := ⟨by decide +kernel, rfl⟩
theorem d5_7 : DAt B5 7 (.istore 4) 2 9 := ⟨by decide +kernel, rfl⟩
theorem d5_9 : DAt B5 9 (.aload_n 0) 1 10 := ⟨by decide +kernel, rfl⟩
theorem d5_10 : DAt B5 10 (.getfield 20) 3 13 := ⟨by decide +kernel, rfl⟩
theorem d5_13 : DAt B5 13 (.iload 4) 2 15 := ⟨by decide +kernel, rfl⟩
theorem d5_15 : DAt B5 15 (.iconst 2) 1 16 := ⟨by decide +kernel, rfl⟩
theorem d5_16 : DAt B5 16 (.iastore) 1 17 := ⟨by decide +kernel, rfl⟩
theorem d5_17 : DAt B5 17 (.aload_n 0) 1 18 := ⟨by decide +kernel, rfl⟩
theorem d5_18 : DAt B5 18 (.getfield 17) 3 21 := ⟨by decide +kernel, rfl⟩
theorem d5_21 : DAt B5 21 (.iload_n 1) 1 22 := ⟨by decide +kernel, rfl⟩
theorem d5_22 : DAt B5 22 (.bipush 8) 2 24 := ⟨by decide +kernel, rfl⟩
theorem d5_24 : DAt B5 24 (.imul) 1 25 := ⟨by decide +kernel, rfl⟩
theorem d5_25 : DAt B5 25 (.iload_n 2) 1 26 := ⟨by decide +kernel, rfl⟩
theorem d5_26 : DAt B5 26 (.iadd) 1 27 := ⟨by decide +kernel, rfl⟩
theorem d5_27 : DAt B5 27 (.aload_n 0) 1 28 := ⟨by decide +kernel, rfl⟩
theorem d5_28 : DAt B5 28 (.getfield 17) 3 31 := ⟨by decide +kernel, rfl⟩
theorem d5_31 : DAt B5 31 (.iload_n 1) 1 32 := ⟨by decide +kernel, rfl⟩
theorem d5_32 : DAt B5 32 (.bipush 8) 2 34 := ⟨by decide +kernel, rfl⟩
theorem d5_34 : DAt B5 34 (.imul) 1 35 := ⟨by decide +kernel, rfl⟩
theorem d5_35 : DAt B5 35 (.iload_n 2) 1 36 := ⟨by decide +kernel, rfl⟩
theorem d5_36 : DAt B5 36 (.iadd) 1 37 := ⟨by decide +kernel, rfl⟩
theorem d5_37 : DAt B5 37 (.iaload) 1 38 := ⟨by decide +kernel, rfl⟩
theorem d5_38 : DAt B5 38 (.iconst 1) 1 39 := ⟨by decide +kernel, rfl⟩
theorem d5_39 : DAt B5 39 (.iadd) 1 40 := ⟨by decide +kernel, rfl⟩
theorem d5_40 : DAt B5 40 (.iastore) 1 41 := ⟨by decide +kernel, rfl⟩
theorem d5_41 : DAt B5 41 (.aload_n 0) 1 42 := ⟨by decide +kernel, rfl⟩
theorem d5_42 : DAt B5 42 (.getfield 35) 3 45 := ⟨by decide +kernel, rfl⟩
theorem d5_45 : DAt B5 45 (.iload_n 1) 1 46 := ⟨by decide +kernel, rfl⟩
theorem d5_46 : DAt B5 46 (.iaload) 1 47 := ⟨by decide +kernel, rfl⟩
theorem d5_47 : DAt B5 47 (.istore 5) 2 49 := ⟨by decide +kernel, rfl⟩
theorem d5_49 : DAt B5 49 (.iload 5) 2 51 := ⟨by decide +kernel, rfl⟩
theorem d5_51 : DAt B5 51 (.ifCond .lt 38) 3 54 := ⟨by decide +kernel, rfl⟩
theorem d5_54 : DAt B5 54 (.iload 5) 2 56 := ⟨by decide +kernel, rfl⟩
theorem d5_56 : DAt B5 56 (.bipush 64) 2 58 := ⟨by decide +kernel, rfl⟩
theorem d5_58 : DAt B5 58 (.if_icmp .ge 31) 3 61 := ⟨by decide +kernel, rfl⟩
theorem d5_61 : DAt B5 61 (.aload_n 0) 1 62 := ⟨by decide +kernel, rfl⟩
theorem d5_62 : DAt B5 62 (.getfield 32) 3 65 := ⟨by decide +kernel, rfl⟩
theorem d5_65 : DAt B5 65 (.iload_n 1) 1 66 := ⟨by decide +kernel, rfl⟩
theorem d5_66 : DAt B5 66 (.bipush 64) 2 68 := ⟨by decide +kernel, rfl⟩
theorem d5_68 : DAt B5 68 (.imul) 1 69 := ⟨by decide +kernel, rfl⟩
theorem d5_69 : DAt B5 69 (.iload 5) 2 71 := ⟨by decide +kernel, rfl⟩
theorem d5_71 : DAt B5 71 (.iadd) 1 72 := ⟨by decide +kernel, rfl⟩
theorem d5_72 : DAt B5 72 (.iload_n 2) 1 73 := ⟨by decide +kernel, rfl⟩
theorem d5_73 : DAt B5 73 (.bipush 16) 2 75 := ⟨by decide +kernel, rfl⟩
theorem d5_75 : DAt B5 75 (.imul) 1 76 := ⟨by decide +kernel, rfl⟩
theorem d5_76 : DAt B5 76 (.iload_n 3) 1 77 := ⟨by decide +kernel, rfl⟩
theorem d5_77 : DAt B5 77 (.iadd) 1 78 := ⟨by decide +kernel, rfl⟩
theorem d5_78 : DAt B5 78 (.iastore) 1 79 := ⟨by decide +kernel, rfl⟩
theorem d5_79 : DAt B5 79 (.aload_n 0) 1 80 := ⟨by decide +kernel, rfl⟩
theorem d5_80 : DAt B5 80 (.getfield 35) 3 83 := ⟨by decide +kernel, rfl⟩
theorem d5_83 : DAt B5 83 (.iload_n 1) 1 84 := ⟨by decide +kernel, rfl⟩
theorem d5_84 : DAt B5 84 (.iload 5) 2 86 := ⟨by decide +kernel, rfl⟩
theorem d5_86 : DAt B5 86 (.iconst 1) 1 87 := ⟨by decide +kernel, rfl⟩
theorem d5_87 : DAt B5 87 (.iadd) 1 88 := ⟨by decide +kernel, rfl⟩
theorem d5_88 : DAt B5 88 (.iastore) 1 89 := ⟨by decide +kernel, rfl⟩
theorem d5_89 : DAt B5 89 (.aload_n 0) 1 90 := ⟨by decide +kernel, rfl⟩
theorem d5_90 : DAt B5 90 (.iload_n 1) 1 91 := ⟨by decide +kernel, rfl⟩
theorem d5_91 : DAt B5 91 (.iload_n 1) 1 92 := ⟨by decide +kernel, rfl⟩
theorem d5_92 : DAt B5 92 (.iload_n 2) 1 93 := ⟨by decide +kernel, rfl⟩
theorem d5_93 : DAt B5 93 (.invokevirtual 49) 3 96 := ⟨by decide +kernel, rfl⟩
theorem d5_96 : DAt B5 96 (.istore 6) 2 98 := ⟨by decide +kernel, rfl⟩
theorem d5_98 : DAt B5 98 (.aload_n 0) 1 99 := ⟨by decide +kernel, rfl⟩
theorem d5_99 : DAt B5 99 (.getfield 29) 3 102 := ⟨by decide +kernel, rfl⟩
theorem d5_102 : DAt B5 102 (.iload 6) 2 104 := ⟨by decide +kernel, rfl⟩
theorem d5_104 : DAt B5 104 (.aload_n 0) 1 105 := ⟨by decide +kernel, rfl⟩
theorem d5_105 : DAt B5 105 (.getfield 17) 3 108 := ⟨by decide +kernel, rfl⟩
theorem d5_108 : DAt B5 108 (.iload_n 1) 1 109 := ⟨by decide +kernel, rfl⟩
theorem d5_109 : DAt B5 109 (.bipush 8) 2 111 := ⟨by decide +kernel, rfl⟩
theorem d5_111 : DAt B5 111 (.imul) 1 112 := ⟨by decide +kernel, rfl⟩
theorem d5_112 : DAt B5 112 (.iload_n 2) 1 113 := ⟨by decide +kernel, rfl⟩
theorem d5_113 : DAt B5 113 (.iadd) 1 114 := ⟨by decide +kernel, rfl⟩
theorem d5_114 : DAt B5 114 (.iaload) 1 115 := ⟨by decide +kernel, rfl⟩
theorem d5_115 : DAt B5 115 (.iastore) 1 116 := ⟨by decide +kernel, rfl⟩
theorem d5_116 : DAt B5 116 (.return_) 1 117 := ⟨by decide +kernel, rfl⟩
def B2 : Bdy := ((⟨"CausalStable", "broadcast", "(I)I"⟩ : MethodName), prog_1_method_13_code, 5, (some .int), ({ frames := 2, cells := 0, slots := 0, locals := 33 } : Room))
theorem d2_0 : DAt B2 0 (.aload_n 0) 1 1 := ⟨by decide +kernel, rfl⟩
theorem d2_1 : DAt B2 1 (.iload_n 1) 1 2 := ⟨by decide +kernel, rfl⟩
theorem d2_2 : DAt B2 2 (.invokevirtual 68) 3 5 := ⟨by decide +kernel, rfl⟩
theorem d2_5 : DAt B2 5 (.ifCond .ne 5) 3 8 := ⟨by decide +kernel, rfl⟩
theorem d2_8 : DAt B2 8 (.iconst (-1)) 1 9 := ⟨by decide +kernel, rfl⟩
theorem d2_9 : DAt B2 9 (.ireturn) 1 10 := ⟨by decide +kernel, rfl⟩
theorem d2_10 : DAt B2 10 (.aload_n 0) 1 11 := ⟨by decide +kernel, rfl⟩
theorem d2_11 : DAt B2 11 (.getfield 13) 3 14 := ⟨by decide +kernel, rfl⟩
theorem d2_14 : DAt B2 14 (.iload_n 1) 1 15 := ⟨by decide +kernel, rfl⟩
theorem d2_15 : DAt B2 15 (.baload) 1 16 := ⟨by decide +kernel, rfl⟩
theorem d2_16 : DAt B2 16 (.ifCond .eq 6) 3 19 := ⟨by decide +kernel, rfl⟩
theorem d2_19 : DAt B2 19 (.bipush (-2)) 2 21 := ⟨by decide +kernel, rfl⟩
theorem d2_21 : DAt B2 21 (.ireturn) 1 22 := ⟨by decide +kernel, rfl⟩
theorem d2_22 : DAt B2 22 (.aload_n 0) 1 23 := ⟨by decide +kernel, rfl⟩
theorem d2_23 : DAt B2 23 (.getfield 7) 3 26 := ⟨by decide +kernel, rfl⟩
theorem d2_26 : DAt B2 26 (.iload_n 1) 1 27 := ⟨by decide +kernel, rfl⟩
theorem d2_27 : DAt B2 27 (.iaload) 1 28 := ⟨by decide +kernel, rfl⟩
theorem d2_28 : DAt B2 28 (.aload_n 0) 1 29 := ⟨by decide +kernel, rfl⟩
theorem d2_29 : DAt B2 29 (.getfield 42) 3 32 := ⟨by decide +kernel, rfl⟩
theorem d2_32 : DAt B2 32 (.if_icmp .lt 6) 3 35 := ⟨by decide +kernel, rfl⟩
theorem d2_35 : DAt B2 35 (.bipush (-3)) 2 37 := ⟨by decide +kernel, rfl⟩
theorem d2_37 : DAt B2 37 (.ireturn) 1 38 := ⟨by decide +kernel, rfl⟩
theorem d2_38 : DAt B2 38 (.aload_n 0) 1 39 := ⟨by decide +kernel, rfl⟩
theorem d2_39 : DAt B2 39 (.getfield 7) 3 42 := ⟨by decide +kernel, rfl⟩
theorem d2_42 : DAt B2 42 (.iload_n 1) 1 43 := ⟨by decide +kernel, rfl⟩
theorem d2_43 : DAt B2 43 (.iaload) 1 44 := ⟨by decide +kernel, rfl⟩
theorem d2_44 : DAt B2 44 (.iconst 1) 1 45 := ⟨by decide +kernel, rfl⟩
theorem d2_45 : DAt B2 45 (.iadd) 1 46 := ⟨by decide +kernel, rfl⟩
theorem d2_46 : DAt B2 46 (.istore_n 2) 1 47 := ⟨by decide +kernel, rfl⟩
theorem d2_47 : DAt B2 47 (.aload_n 0) 1 48 := ⟨by decide +kernel, rfl⟩
theorem d2_48 : DAt B2 48 (.getfield 7) 3 51 := ⟨by decide +kernel, rfl⟩
theorem d2_51 : DAt B2 51 (.iload_n 1) 1 52 := ⟨by decide +kernel, rfl⟩
theorem d2_52 : DAt B2 52 (.iload_n 2) 1 53 := ⟨by decide +kernel, rfl⟩
theorem d2_53 : DAt B2 53 (.iastore) 1 54 := ⟨by decide +kernel, rfl⟩
theorem d2_54 : DAt B2 54 (.aload_n 0) 1 55 := ⟨by decide +kernel, rfl⟩
theorem d2_55 : DAt B2 55 (.iload_n 1) 1 56 := ⟨by decide +kernel, rfl⟩
theorem d2_56 : DAt B2 56 (.iload_n 2) 1 57 := ⟨by decide +kernel, rfl⟩
theorem d2_57 : DAt B2 57 (.invokevirtual 56) 3 60 := ⟨by decide +kernel, rfl⟩
theorem d2_60 : DAt B2 60 (.istore_n 3) 1 61 := ⟨by decide +kernel, rfl⟩
theorem d2_61 : DAt B2 61 (.iconst 0) 1 62 := ⟨by decide +kernel, rfl⟩
theorem d2_62 : DAt B2 62 (.istore 4) 2 64 := ⟨by decide +kernel, rfl⟩
theorem d2_64 : DAt B2 64 (.iload 4) 2 66 := ⟨by decide +kernel, rfl⟩
theorem d2_66 : DAt B2 66 (.aload_n 0) 1 67 := ⟨by decide +kernel, rfl⟩
theorem d2_67 : DAt B2 67 (.getfield 38) 3 70 := ⟨by decide +kernel, rfl⟩
theorem d2_70 : DAt B2 70 (.if_icmp .ge 33) 3 73 := ⟨by decide +kernel, rfl⟩
theorem d2_73 : DAt B2 73 (.aload_n 0) 1 74 := ⟨by decide +kernel, rfl⟩
theorem d2_74 : DAt B2 74 (.getfield 23) 3 77 := ⟨by decide +kernel, rfl⟩
theorem d2_77 : DAt B2 77 (.iload_n 3) 1 78 := ⟨by decide +kernel, rfl⟩
theorem d2_78 : DAt B2 78 (.bipush 8) 2 80 := ⟨by decide +kernel, rfl⟩
theorem d2_80 : DAt B2 80 (.imul) 1 81 := ⟨by decide +kernel, rfl⟩
theorem d2_81 : DAt B2 81 (.iload 4) 2 83 := ⟨by decide +kernel, rfl⟩
theorem d2_83 : DAt B2 83 (.iadd) 1 84 := ⟨by decide +kernel, rfl⟩
theorem d2_84 : DAt B2 84 (.aload_n 0) 1 85 := ⟨by decide +kernel, rfl⟩
theorem d2_85 : DAt B2 85 (.getfield 17) 3 88 := ⟨by decide +kernel, rfl⟩
theorem d2_88 : DAt B2 88 (.iload_n 1) 1 89 := ⟨by decide +kernel, rfl⟩
theorem d2_89 : DAt B2 89 (.bipush 8) 2 91 := ⟨by decide +kernel, rfl⟩
theorem d2_91 : DAt B2 91 (.imul) 1 92 := ⟨by decide +kernel, rfl⟩
theorem d2_92 : DAt B2 92 (.iload 4) 2 94 := ⟨by decide +kernel, rfl⟩
theorem d2_94 : DAt B2 94 (.iadd) 1 95 := ⟨by decide +kernel, rfl⟩
theorem d2_95 : DAt B2 95 (.iaload) 1 96 := ⟨by decide +kernel, rfl⟩
theorem d2_96 : DAt B2 96 (.iastore) 1 97 := ⟨by decide +kernel, rfl⟩
theorem d2_97 : DAt B2 97 (.iinc 4 1) 3 100 := ⟨by decide +kernel, rfl⟩
theorem d2_100 : DAt B2 100 (.goto (-36)) 3 103 := ⟨by decide +kernel, rfl⟩
theorem d2_103 : DAt B2 103 (.aload_n 0) 1 104 := ⟨by decide +kernel, rfl⟩
theorem d2_104 : DAt B2 104 (.getfield 23) 3 107 := ⟨by decide +kernel, rfl⟩
theorem d2_107 : DAt B2 107 (.iload_n 3) 1 108 := ⟨by decide +kernel, rfl⟩
theorem d2_108 : DAt B2 108 (.bipush 8) 2 110 := ⟨by decide +kernel, rfl⟩
theorem d2_110 : DAt B2 110 (.imul) 1 111 := ⟨by decide +kernel, rfl⟩
theorem d2_111 : DAt B2 111 (.iload_n 1) 1 112 := ⟨by decide +kernel, rfl⟩
theorem d2_112 : DAt B2 112 (.iadd) 1 113 := ⟨by decide +kernel, rfl⟩
theorem d2_113 : DAt B2 113 (.iload_n 2) 1 114 := ⟨by decide +kernel, rfl⟩
theorem d2_114 : DAt B2 114 (.iastore) 1 115 := ⟨by decide +kernel, rfl⟩
theorem d2_115 : DAt B2 115 (.aload_n 0) 1 116 := ⟨by decide +kernel, rfl⟩
theorem d2_116 : DAt B2 116 (.iload_n 1) 1 117 := ⟨by decide +kernel, rfl⟩
theorem d2_117 : DAt B2 117 (.iload_n 1) 1 118 := ⟨by decide +kernel, rfl⟩
theorem d2_118 : DAt B2 118 (.iload_n 2) 1 119 := ⟨by decide +kernel, rfl⟩
theorem d2_119 : DAt B2 119 (.invokevirtual 64) 3 122 := ⟨by decide +kernel, rfl⟩
theorem d2_122 : DAt B2 122 (.iconst 0) 1 123 := ⟨by decide +kernel, rfl⟩
theorem d2_123 : DAt B2 123 (.istore 4) 2 125 := ⟨by decide +kernel, rfl⟩
theorem d2_125 : DAt B2 125 (.iload 4) 2 127 := ⟨by decide +kernel, rfl⟩
theorem d2_127 : DAt B2 127 (.aload_n 0) 1 128 := ⟨by decide +kernel, rfl⟩
theorem d2_128 : DAt B2 128 (.getfield 38) 3 131 := ⟨by decide +kernel, rfl⟩
theorem d2_131 : DAt B2 131 (.if_icmp .ge 32) 3 134 := ⟨by decide +kernel, rfl⟩
theorem d2_134 : DAt B2 134 (.aload_n 0) 1 135 := ⟨by decide +kernel, rfl⟩
theorem d2_135 : DAt B2 135 (.getfield 26) 3 138 := ⟨by decide +kernel, rfl⟩
theorem d2_138 : DAt B2 138 (.iload_n 3) 1 139 := ⟨by decide +kernel, rfl⟩
theorem d2_139 : DAt B2 139 (.bipush 8) 2 141 := ⟨by decide +kernel, rfl⟩
theorem d2_141 : DAt B2 141 (.imul) 1 142 := ⟨by decide +kernel, rfl⟩
theorem d2_142 : DAt B2 142 (.iload 4) 2 144 := ⟨by decide +kernel, rfl⟩
theorem d2_144 : DAt B2 144 (.iadd) 1 145 := ⟨by decide +kernel, rfl⟩
theorem d2_145 : DAt B2 145 (.iload 4) 2 147 := ⟨by decide +kernel, rfl⟩
theorem d2_147 : DAt B2 147 (.iload_n 1) 1 148 := ⟨by decide +kernel, rfl⟩
theorem d2_148 : DAt B2 148 (.if_icmp .ne 7) 3 151 := ⟨by decide +kernel, rfl⟩
theorem d2_151 : DAt B2 151 (.iconst 0) 1 152 := ⟨by decide +kernel, rfl⟩
theorem d2_152 : DAt B2 152 (.goto 4) 3 155 := ⟨by decide +kernel, rfl⟩
theorem d2_155 : DAt B2 155 (.iconst 1) 1 156 := ⟨by decide +kernel, rfl⟩
theorem d2_156 : DAt B2 156 (.iastore) 1 157 := ⟨by decide +kernel, rfl⟩
theorem d2_157 : DAt B2 157 (.iinc 4 1) 3 160 := ⟨by decide +kernel, rfl⟩
theorem d2_160 : DAt B2 160 (.goto (-35)) 3 163 := ⟨by decide +kernel, rfl⟩
theorem d2_163 : DAt B2 163 (.iload_n 2) 1 164 := ⟨by decide +kernel, rfl⟩
theorem d2_164 : DAt B2 164 (.ireturn) 1 165 := ⟨by decide +kernel, rfl⟩
def B9 : Bdy := ((⟨"CausalStable", "exists", "(II)Z"⟩ : MethodName), prog_1_method_3_code, 3, (some .boolean), ({ frames := 0, cells := 0, slots := 0, locals := 0 } : Room))
theorem d9_0 : DAt B9 0 (.iload_n 1) 1 1 := ⟨by decide +kernel, rfl⟩
theorem d9_1 : DAt B9 1 (.ifCond .lt 30) 3 4 := ⟨by decide +kernel, rfl⟩
theorem d9_4 : DAt B9 4 (.iload_n 1) 1 5 := ⟨by decide +kernel, rfl⟩
theorem d9_5 : DAt B9 5 (.aload_n 0) 1 6 := ⟨by decide +kernel, rfl⟩
theorem d9_6 : DAt B9 6 (.getfield 38) 3 9 := ⟨by decide +kernel, rfl⟩
theorem d9_9 : DAt B9 9 (.if_icmp .ge 22) 3 12 := ⟨by decide +kernel, rfl⟩
theorem d9_12 : DAt B9 12 (.iload_n 2) 1 13 := ⟨by decide +kernel, rfl⟩
theorem d9_13 : DAt B9 13 (.iconst 1) 1 14 := ⟨by decide +kernel, rfl⟩
theorem d9_14 : DAt B9 14 (.if_icmp .lt 17) 3 17 := ⟨by decide +kernel, rfl⟩
theorem d9_17 : DAt B9 17 (.iload_n 2) 1 18 := ⟨by decide +kernel, rfl⟩
theorem d9_18 : DAt B9 18 (.aload_n 0) 1 19 := ⟨by decide +kernel, rfl⟩
theorem d9_19 : DAt B9 19 (.getfield 7) 3 22 := ⟨by decide +kernel, rfl⟩
theorem d9_22 : DAt B9 22 (.iload_n 1) 1 23 := ⟨by decide +kernel, rfl⟩
theorem d9_23 : DAt B9 23 (.iaload) 1 24 := ⟨by decide +kernel, rfl⟩
theorem d9_24 : DAt B9 24 (.if_icmp .gt 7) 3 27 := ⟨by decide +kernel, rfl⟩
theorem d9_27 : DAt B9 27 (.iconst 1) 1 28 := ⟨by decide +kernel, rfl⟩
theorem d9_28 : DAt B9 28 (.goto 4) 3 31 := ⟨by decide +kernel, rfl⟩
theorem d9_31 : DAt B9 31 (.iconst 0) 1 32 := ⟨by decide +kernel, rfl⟩
theorem d9_32 : DAt B9 32 (.ireturn) 1 33 := ⟨by decide +kernel, rfl⟩
def B10 : Bdy := ((⟨"CausalStable", "copyIndex", "(III)I"⟩ : MethodName), prog_1_method_6_code, 4, (some .int), ({ frames := 0, cells := 0, slots := 0, locals := 0 } : Room))
theorem d10_0 : DAt B10 0 (.iload_n 1) 1 1 := ⟨by decide +kernel, rfl⟩
theorem d10_1 : DAt B10 1 (.bipush 8) 2 3 := ⟨by decide +kernel, rfl⟩
theorem d10_3 : DAt B10 3 (.imul) 1 4 := ⟨by decide +kernel, rfl⟩
theorem d10_4 : DAt B10 4 (.iload_n 2) 1 5 := ⟨by decide +kernel, rfl⟩
theorem d10_5 : DAt B10 5 (.iadd) 1 6 := ⟨by decide +kernel, rfl⟩
theorem d10_6 : DAt B10 6 (.iconst 1) 1 7 := ⟨by decide +kernel, rfl⟩
theorem d10_7 : DAt B10 7 (.isub) 1 8 := ⟨by decide +kernel, rfl⟩
theorem d10_8 : DAt B10 8 (.bipush 8) 2 10 := ⟨by decide +kernel, rfl⟩
theorem d10_10 : DAt B10 10 (.imul) 1 11 := ⟨by decide +kernel, rfl⟩
theorem d10_11 : DAt B10 11 (.iload_n 3) 1 12 := ⟨by decide +kernel, rfl⟩
theorem d10_12 : DAt B10 12 (.iadd) 1 13 := ⟨by decide +kernel, rfl⟩
theorem d10_13 : DAt B10 13 (.ireturn) 1 14 := ⟨by decide +kernel, rfl⟩
def B12 : Bdy := ((⟨"CausalStable", "isDeliverable", "(III)Z"⟩ : MethodName), prog_1_method_9_code, 7, (some .boolean), ({ frames := 1, cells := 0, slots := 0, locals := 15 } : Room))
theorem d12_0 : DAt B12 0 (.aload_n 0) 1 1 := ⟨by decide +kernel, rfl⟩
theorem d12_1 : DAt B12 1 (.iload_n 2) 1 2 := ⟨by decide +kernel, rfl⟩
theorem d12_2 : DAt B12 2 (.iload_n 3) 1 3 := ⟨by decide +kernel, rfl⟩
theorem d12_3 : DAt B12 3 (.invokevirtual 52) 3 6 := ⟨by decide +kernel, rfl⟩
theorem d12_6 : DAt B12 6 (.ifCond .ne 5) 3 9 := ⟨by decide +kernel, rfl⟩
theorem d12_9 : DAt B12 9 (.iconst 0) 1 10 := ⟨by decide +kernel, rfl⟩
theorem d12_10 : DAt B12 10 (.ireturn) 1 11 := ⟨by decide +kernel, rfl⟩
theorem d12_11 : DAt B12 11 (.aload_n 0) 1 12 := ⟨by decide +kernel, rfl⟩
theorem d12_12 : DAt B12 12 (.iload_n 1) 1 13 := ⟨by decide +kernel, rfl⟩
theorem d12_13 : DAt B12 13 (.iload_n 2) 1 14 := ⟨by decide +kernel, rfl⟩
theorem d12_14 : DAt B12 14 (.iload_n 3) 1 15 := ⟨by decide +kernel, rfl⟩
theorem d12_15 : DAt B12 15 (.invokevirtual 45) 3 18 := ⟨by decide +kernel, rfl⟩
theorem d12_18 : DAt B12 18 (.istore 4) 2 20 := ⟨by decide +kernel, rfl⟩
theorem d12_20 : DAt B12 20 (.aload_n 0) 1 21 := ⟨by decide +kernel, rfl⟩
theorem d12_21 : DAt B12 21 (.getfield 20) 3 24 := ⟨by decide +kernel, rfl⟩
theorem d12_24 : DAt B12 24 (.iload 4) 2 26 := ⟨by decide +kernel, rfl⟩
theorem d12_26 : DAt B12 26 (.iaload) 1 27 := ⟨by decide +kernel, rfl⟩
theorem d12_27 : DAt B12 27 (.iconst 1) 1 28 := ⟨by decide +kernel, rfl⟩
theorem d12_28 : DAt B12 28 (.if_icmp .eq 5) 3 31 := ⟨by decide +kernel, rfl⟩
theorem d12_31 : DAt B12 31 (.iconst 0) 1 32 := ⟨by decide +kernel, rfl⟩
theorem d12_32 : DAt B12 32 (.ireturn) 1 33 := ⟨by decide +kernel, rfl⟩
theorem d12_33 : DAt B12 33 (.iload_n 3) 1 34 := ⟨by decide +kernel, rfl⟩
theorem d12_34 : DAt B12 34 (.aload_n 0) 1 35 := ⟨by decide +kernel, rfl⟩
theorem d12_35 : DAt B12 35 (.getfield 17) 3 38 := ⟨by decide +kernel, rfl⟩
theorem d12_38 : DAt B12 38 (.iload_n 1) 1 39 := ⟨by decide +kernel, rfl⟩
theorem d12_39 : DAt B12 39 (.bipush 8) 2 41 := ⟨by decide +kernel, rfl⟩
theorem d12_41 : DAt B12 41 (.imul) 1 42 := ⟨by decide +kernel, rfl⟩
theorem d12_42 : DAt B12 42 (.iload_n 2) 1 43 := ⟨by decide +kernel, rfl⟩
theorem d12_43 : DAt B12 43 (.iadd) 1 44 := ⟨by decide +kernel, rfl⟩
theorem d12_44 : DAt B12 44 (.iaload) 1 45 := ⟨by decide +kernel, rfl⟩
theorem d12_45 : DAt B12 45 (.iconst 1) 1 46 := ⟨by decide +kernel, rfl⟩
theorem d12_46 : DAt B12 46 (.iadd) 1 47 := ⟨by decide +kernel, rfl⟩
theorem d12_47 : DAt B12 47 (.if_icmp .eq 5) 3 50 := ⟨by decide +kernel, rfl⟩
theorem d12_50 : DAt B12 50 (.iconst 0) 1 51 := ⟨by decide +kernel, rfl⟩
theorem d12_51 : DAt B12 51 (.ireturn) 1 52 := ⟨by decide +kernel, rfl⟩
theorem d12_52 : DAt B12 52 (.aload_n 0) 1 53 := ⟨by decide +kernel, rfl⟩
theorem d12_53 : DAt B12 53 (.iload_n 2) 1 54 := ⟨by decide +kernel, rfl⟩
theorem d12_54 : DAt B12 54 (.iload_n 3) 1 55 := ⟨by decide +kernel, rfl⟩
theorem d12_55 : DAt B12 55 (.invokevirtual 56) 3 58 := ⟨by decide +kernel, rfl⟩
theorem d12_58 : DAt B12 58 (.istore 5) 2 60 := ⟨by decide +kernel, rfl⟩
theorem d12_60 : DAt B12 60 (.iconst 0) 1 61 := ⟨by decide +kernel, rfl⟩
theorem d12_61 : DAt B12 61 (.istore 6) 2 63 := ⟨by decide +kernel, rfl⟩
theorem d12_63 : DAt B12 63 (.iload 6) 2 65 := ⟨by decide +kernel, rfl⟩
theorem d12_65 : DAt B12 65 (.aload_n 0) 1 66 := ⟨by decide +kernel, rfl⟩
theorem d12_66 : DAt B12 66 (.getfield 38) 3 69 := ⟨by decide +kernel, rfl⟩
theorem d12_69 : DAt B12 69 (.if_icmp .ge 45) 3 72 := ⟨by decide +kernel, rfl⟩
theorem d12_72 : DAt B12 72 (.iload 6) 2 74 := ⟨by decide +kernel, rfl⟩
theorem d12_74 : DAt B12 74 (.iload_n 2) 1 75 := ⟨by decide +kernel, rfl⟩
theorem d12_75 : DAt B12 75 (.if_icmp .eq 33) 3 78 := ⟨by decide +kernel, rfl⟩
theorem d12_78 : DAt B12 78 (.aload_n 0) 1 79 := ⟨by decide +kernel, rfl⟩
theorem d12_79 : DAt B12 79 (.getfield 23) 3 82 := ⟨by decide +kernel, rfl⟩
theorem d12_82 : DAt B12 82 (.iload 5) 2 84 := ⟨by decide +kernel, rfl⟩
theorem d12_84 : DAt B12 84 (.bipush 8) 2 86 := ⟨by decide +kernel, rfl⟩
theorem d12_86 : DAt B12 86 (.imul) 1 87 := ⟨by decide +kernel, rfl⟩
theorem d12_87 : DAt B12 87 (.iload 6) 2 89 := ⟨by decide +kernel, rfl⟩
theorem d12_89 : DAt B12 89 (.iadd) 1 90 := ⟨by decide +kernel, rfl⟩
theorem d12_90 : DAt B12 90 (.iaload) 1 91 := ⟨by decide +kernel, rfl⟩
theorem d12_91 : DAt B12 91 (.aload_n 0) 1 92 := ⟨by decide +kernel, rfl⟩
theorem d12_92 : DAt B12 92 (.getfield 17) 3 95 := ⟨by decide +kernel, rfl⟩
theorem d12_95 : DAt B12 95 (.iload_n 1) 1 96 := ⟨by decide +kernel, rfl⟩
theorem d12_96 : DAt B12 96 (.bipush 8) 2 98 := ⟨by decide +kernel, rfl⟩
theorem d12_98 : DAt B12 98 (.imul) 1 99 := ⟨by decide +kernel, rfl⟩
theorem d12_99 : DAt B12 99 (.iload 6) 2 101 := ⟨by decide +kernel, rfl⟩
theorem d12_101 : DAt B12 101 (.iadd) 1 102 := ⟨by decide +kernel, rfl⟩
theorem d12_102 : DAt B12 102 (.iaload) 1 103 := ⟨by decide +kernel, rfl⟩
theorem d12_103 : DAt B12 103 (.if_icmp .le 5) 3 106 := ⟨by decide +kernel, rfl⟩
theorem d12_106 : DAt B12 106 (.iconst 0) 1 107 := ⟨by decide +kernel, rfl⟩
theorem d12_107 : DAt B12 107 (.ireturn) 1 108 := ⟨by decide +kernel, rfl⟩
theorem d12_108 : DAt B12 108 (.iinc 6 1) 3 111 := ⟨by decide +kernel, rfl⟩
theorem d12_111 : DAt B12 111 (.goto (-48)) 3 114 := ⟨by decide +kernel, rfl⟩
theorem d12_114 : DAt B12 114 (.iconst 1) 1 115 := ⟨by decide +kernel, rfl⟩
theorem d12_115 : DAt B12 115 (.ireturn) 1 116 := ⟨by decide +kernel, rfl⟩
def B11 : Bdy := ((⟨"CausalStable", "cascade", "(I)I"⟩ : MethodName), prog_1_method_10_code, 8, (some .int), ({ frames := 2, cells := 0, slots := 0, locals := 33 } : Room))
theorem d11_0 : DAt B11 0 (.iconst 0) 1 1 := ⟨by decide +kernel, rfl⟩
theorem d11_1 : DAt B11 1 (.istore_n 2) 1 2 := ⟨by decide +kernel, rfl⟩
theorem d11_2 : DAt B11 2 (.iconst 0) 1 3 := ⟨by decide +kernel, rfl⟩
theorem d11_3 : DAt B11 3 (.istore_n 3) 1 4 := ⟨by decide +kernel, rfl⟩
theorem d11_4 : DAt B11 4 (.iload_n 3) 1 5 := ⟨by decide +kernel, rfl⟩
theorem d11_5 : DAt B11 5 (.bipush 65) 2 7 := ⟨by decide +kernel, rfl⟩
theorem d11_7 : DAt B11 7 (.if_icmp .ge 92) 3 10 := ⟨by decide +kernel, rfl⟩
theorem d11_10 : DAt B11 10 (.iconst (-1)) 1 11 := ⟨by decide +kernel, rfl⟩
theorem d11_11 : DAt B11 11 (.istore 4) 2 13 := ⟨by decide +kernel, rfl⟩
theorem d11_13 : DAt B11 13 (.iconst 0) 1 14 := ⟨by decide +kernel, rfl⟩
theorem d11_14 : DAt B11 14 (.istore 5) 2 16 := ⟨by decide +kernel, rfl⟩
theorem d11_16 : DAt B11 16 (.iconst 0) 1 17 := ⟨by decide +kernel, rfl⟩
theorem d11_17 : DAt B11 17 (.istore 6) 2 19 := ⟨by decide +kernel, rfl⟩
theorem d11_19 : DAt B11 19 (.iload 6) 2 21 := ⟨by decide +kernel, rfl⟩
theorem d11_21 : DAt B11 21 (.aload_n 0) 1 22 := ⟨by decide +kernel, rfl⟩
theorem d11_22 : DAt B11 22 (.getfield 38) 3 25 := ⟨by decide +kernel, rfl⟩
theorem d11_25 : DAt B11 25 (.if_icmp .ge 48) 3 28 := ⟨by decide +kernel, rfl⟩
theorem d11_28 : DAt B11 28 (.aload_n 0) 1 29 := ⟨by decide +kernel, rfl⟩
theorem d11_29 : DAt B11 29 (.getfield 17) 3 32 := ⟨by decide +kernel, rfl⟩
theorem d11_32 : DAt B11 32 (.iload_n 1) 1 33 := ⟨by decide +kernel, rfl⟩
theorem d11_33 : DAt B11 33 (.bipush 8) 2 35 := ⟨by decide +kernel, rfl⟩
theorem d11_35 : DAt B11 35 (.imul) 1 36 := ⟨by decide +kernel, rfl⟩
theorem d11_36 : DAt B11 36 (.iload 6) 2 38 := ⟨by decide +kernel, rfl⟩
theorem d11_38 : DAt B11 38 (.iadd) 1 39 := ⟨by decide +kernel, rfl⟩
theorem d11_39 : DAt B11 39 (.iaload) 1 40 := ⟨by decide +kernel, rfl⟩
theorem d11_40 : DAt B11 40 (.iconst 1) 1 41 := ⟨by decide +kernel, rfl⟩
theorem d11_41 : DAt B11 41 (.iadd) 1 42 := ⟨by decide +kernel, rfl⟩
theorem d11_42 : DAt B11 42 (.istore 7) 2 44 := ⟨by decide +kernel, rfl⟩
theorem d11_44 : DAt B11 44 (.aload_n 0) 1 45 := ⟨by decide +kernel, rfl⟩
theorem d11_45 : DAt B11 45 (.iload_n 1) 1 46 := ⟨by decide +kernel, rfl⟩
theorem d11_46 : DAt B11 46 (.iload 6) 2 48 := ⟨by decide +kernel, rfl⟩
theorem d11_48 : DAt B11 48 (.iload 7) 2 50 := ⟨by decide +kernel, rfl⟩
theorem d11_50 : DAt B11 50 (.invokevirtual 60) 3 53 := ⟨by decide +kernel, rfl⟩
theorem d11_53 : DAt B11 53 (.ifCond .eq 14) 3 56 := ⟨by decide +kernel, rfl⟩
theorem d11_56 : DAt B11 56 (.iload 6) 2 58 := ⟨by decide +kernel, rfl⟩
theorem d11_58 : DAt B11 58 (.istore 4) 2 60 := ⟨by decide +kernel, rfl⟩
theorem d11_60 : DAt B11 60 (.iload 7) 2 62 := ⟨by decide +kernel, rfl⟩
theorem d11_62 : DAt B11 62 (.istore 5) 2 64 := ⟨by decide +kernel, rfl⟩
theorem d11_64 : DAt B11 64 (.goto 9) 3 67 := ⟨by decide +kernel, rfl⟩
theorem d11_67 : DAt B11 67 (.iinc 6 1) 3 70 := ⟨by decide +kernel, rfl⟩
theorem d11_70 : DAt B11 70 (.goto (-51)) 3 73 := ⟨by decide +kernel, rfl⟩
theorem d11_73 : DAt B11 73 (.iload 4) 2 75 := ⟨by decide +kernel, rfl⟩
theorem d11_75 : DAt B11 75 (.ifCond .ge 6) 3 78 := ⟨by decide +kernel, rfl⟩
theorem d11_78 : DAt B11 78 (.goto 21) 3 81 := ⟨by decide +kernel, rfl⟩
theorem d11_81 : DAt B11 81 (.aload_n 0) 1 82 := ⟨by decide +kernel, rfl⟩
theorem d11_82 : DAt B11 82 (.iload_n 1) 1 83 := ⟨by decide +kernel, rfl⟩
theorem d11_83 : DAt B11 83 (.iload 4) 2 85 := ⟨by decide +kernel, rfl⟩
theorem d11_85 : DAt B11 85 (.iload 5) 2 87 := ⟨by decide +kernel, rfl⟩
theorem d11_87 : DAt B11 87 (.invokevirtual 64) 3 90 := ⟨by decide +kernel, rfl⟩
theorem d11_90 : DAt B11 90 (.iinc 2 1) 3 93 := ⟨by decide +kernel, rfl⟩
theorem d11_93 : DAt B11 93 (.iinc 3 1) 3 96 := ⟨by decide +kernel, rfl⟩
theorem d11_96 : DAt B11 96 (.goto (-92)) 3 99 := ⟨by decide +kernel, rfl⟩
theorem d11_99 : DAt B11 99 (.iload_n 2) 1 100 := ⟨by decide +kernel, rfl⟩
theorem d11_100 : DAt B11 100 (.ireturn) 1 101 := ⟨by decide +kernel, rfl⟩
def B8 : Bdy := ((⟨"CausalStable", "receive", "(III)I"⟩ : MethodName), prog_1_method_14_code, 6, (some .int), ({ frames := 3, cells := 0, slots := 0, locals := 52 } : Room))
theorem d8_0 : DAt B8 0 (.aload_n 0) 1 1 := ⟨by decide +kernel, rfl⟩
theorem d8_1 : DAt B8 1 (.iload_n 1) 1 2 := ⟨by decide +kernel, rfl⟩
theorem d8_2 : DAt B8 2 (.invokevirtual 68) 3 5 := ⟨by decide +kernel, rfl⟩
theorem d8_5 : DAt B8 5 (.ifCond .eq 12) 3 8 := ⟨by decide +kernel, rfl⟩
theorem d8_8 : DAt B8 8 (.aload_n 0) 1 9 := ⟨by decide +kernel, rfl⟩
theorem d8_9 : DAt B8 9 (.iload_n 2) 1 10 := ⟨by decide +kernel, rfl⟩
theorem d8_10 : DAt B8 10 (.iload_n 3) 1 11 := ⟨by decide +kernel, rfl⟩
theorem d8_11 : DAt B8 11 (.invokevirtual 52) 3 14 := ⟨by decide +kernel, rfl⟩
theorem d8_14 : DAt B8 14 (.ifCond .ne 5) 3 17 := ⟨by decide +kernel, rfl⟩
theorem d8_17 : DAt B8 17 (.iconst (-1)) 1 18 := ⟨by decide +kernel, rfl⟩
theorem d8_18 : DAt B8 18 (.ireturn) 1 19 := ⟨by decide +kernel, rfl⟩
theorem d8_19 : DAt B8 19 (.aload_n 0) 1 20 := ⟨by decide +kernel, rfl⟩
theorem d8_20 : DAt B8 20 (.getfield 13) 3 23 := ⟨by decide +kernel, rfl⟩
theorem d8_23 : DAt B8 23 (.iload_n 1) 1 24 := ⟨by decide +kernel, rfl⟩
theorem d8_24 : DAt B8 24 (.baload) 1 25 := ⟨by decide +kernel, rfl⟩
theorem d8_25 : DAt B8 25 (.ifCond .eq 6) 3 28 := ⟨by decide +kernel, rfl⟩
theorem d8_28 : DAt B8 28 (.bipush (-2)) 2 30 := ⟨by decide +kernel, rfl⟩
theorem d8_30 : DAt B8 30 (.ireturn) 1 31 := ⟨by decide +kernel, rfl⟩
theorem d8_31 : DAt B8 31 (.aload_n 0) 1 32 := ⟨by decide +kernel, rfl⟩
theorem d8_32 : DAt B8 32 (.iload_n 2) 1 33 := ⟨by decide +kernel, rfl⟩
theorem d8_33 : DAt B8 33 (.iload_n 3) 1 34 := ⟨by decide +kernel, rfl⟩
theorem d8_34 : DAt B8 34 (.iload_n 1) 1 35 := ⟨by decide +kernel, rfl⟩
theorem d8_35 : DAt B8 35 (.invokevirtual 72) 3 38 := ⟨by decide +kernel, rfl⟩
theorem d8_38 : DAt B8 38 (.istore 4) 2 40 := ⟨by decide +kernel, rfl⟩
theorem d8_40 : DAt B8 40 (.aload_n 0) 1 41 := ⟨by decide +kernel, rfl⟩
theorem d8_41 : DAt B8 41 (.getfield 26) 3 44 := ⟨by decide +kernel, rfl⟩
theorem d8_44 : DAt B8 44 (.iload 4) 2 46 := ⟨by decide +kernel, rfl⟩
theorem d8_46 : DAt B8 46 (.iaload) 1 47 := ⟨by decide +kernel, rfl⟩
theorem d8_47 : DAt B8 47 (.ifCond .ne 6) 3 50 := ⟨by decide +kernel, rfl⟩
theorem d8_50 : DAt B8 50 (.bipush (-4)) 2 52 := ⟨by decide +kernel, rfl⟩
theorem d8_52 : DAt B8 52 (.ireturn) 1 53 := ⟨by decide +kernel, rfl⟩
theorem d8_53 : DAt B8 53 (.aload_n 0) 1 54 := ⟨by decide +kernel, rfl⟩
theorem d8_54 : DAt B8 54 (.getfield 26) 3 57 := ⟨by decide +kernel, rfl⟩
theorem d8_57 : DAt B8 57 (.iload 4) 2 59 := ⟨by decide +kernel, rfl⟩
theorem d8_59 : DAt B8 59 (.aload_n 0) 1 60 := ⟨by decide +kernel, rfl⟩
theorem d8_60 : DAt B8 60 (.getfield 26) 3 63 := ⟨by decide +kernel, rfl⟩
theorem d8_63 : DAt B8 63 (.iload 4) 2 65 := ⟨by decide +kernel, rfl⟩
theorem d8_65 : DAt B8 65 (.iaload) 1 66 := ⟨by decide +kernel, rfl⟩
theorem d8_66 : DAt B8 66 (.iconst 1) 1 67 := ⟨by decide +kernel, rfl⟩
theorem d8_67 : DAt B8 67 (.isub) 1 68 := ⟨by decide +kernel, rfl⟩
theorem d8_68 : DAt B8 68 (.iastore) 1 69 := ⟨by decide +kernel, rfl⟩
theorem d8_69 : DAt B8 69 (.aload_n 0) 1 70 := ⟨by decide +kernel, rfl⟩
theorem d8_70 : DAt B8 70 (.iload_n 1) 1 71 := ⟨by decide +kernel, rfl⟩
theorem d8_71 : DAt B8 71 (.iload_n 2) 1 72 := ⟨by decide +kernel, rfl⟩
theorem d8_72 : DAt B8 72 (.iload_n 3) 1 73 := ⟨by decide +kernel, rfl⟩
theorem d8_73 : DAt B8 73 (.invokevirtual 45) 3 76 := ⟨by decide +kernel, rfl⟩
theorem d8_76 : DAt B8 76 (.istore 5) 2 78 := ⟨by decide +kernel, rfl⟩
theorem d8_78 : DAt B8 78 (.aload_n 0) 1 79 := ⟨by decide +kernel, rfl⟩
theorem d8_79 : DAt B8 79 (.getfield 20) 3 82 := ⟨by decide +kernel, rfl⟩
theorem d8_82 : DAt B8 82 (.iload 5) 2 84 := ⟨by decide +kernel, rfl⟩
theorem d8_84 : DAt B8 84 (.iaload) 1 85 := ⟨by decide +kernel, rfl⟩
theorem d8_85 : DAt B8 85 (.ifCond .eq 6) 3 88 := ⟨by decide +kernel, rfl⟩
theorem d8_88 : DAt B8 88 (.bipush (-5)) 2 90 := ⟨by decide +kernel, rfl⟩
theorem d8_90 : DAt B8 90 (.ireturn) 1 91 := ⟨by decide +kernel, rfl⟩
theorem d8_91 : DAt B8 91 (.aload_n 0) 1 92 := ⟨by decide +kernel, rfl⟩
theorem d8_92 : DAt B8 92 (.getfield 20) 3 95 := ⟨by decide +kernel, rfl⟩
theorem d8_95 : DAt B8 95 (.iload 5) 2 97 := ⟨by decide +kernel, rfl⟩
theorem d8_97 : DAt B8 97 (.iconst 1) 1 98 := ⟨by decide +kernel, rfl⟩
theorem d8_98 : DAt B8 98 (.iastore) 1 99 := ⟨by decide +kernel, rfl⟩
theorem d8_99 : DAt B8 99 (.aload_n 0) 1 100 := ⟨by decide +kernel, rfl⟩
theorem d8_100 : DAt B8 100 (.iload_n 1) 1 101 := ⟨by decide +kernel, rfl⟩
theorem d8_101 : DAt B8 101 (.invokevirtual 75) 3 104 := ⟨by decide +kernel, rfl⟩
theorem d8_104 : DAt B8 104 (.ireturn) 1 105 := ⟨by decide +kernel, rfl⟩
def B13 : Bdy := ((⟨"CausalStable", "deliveredAt", "(II)I"⟩ : MethodName), prog_1_method_26_code, 3, (some .int), ({ frames := 1, cells := 0, slots := 0, locals := 13 } : Room))
theorem d13_0 : DAt B13 0 (.aload_n 0) 1 1 := ⟨by decide +kernel, rfl⟩
theorem d13_1 : DAt B13 1 (.iload_n 1) 1 2 := ⟨by decide +kernel, rfl⟩
theorem d13_2 : DAt B13 2 (.invokevirtual 68) 3 5 := ⟨by decide +kernel, rfl⟩
theorem d13_5 : DAt B13 5 (.ifCond .ne 5) 3 8 := ⟨by decide +kernel, rfl⟩
theorem d13_8 : DAt B13 8 (.iconst (-1)) 1 9 := ⟨by decide +kernel, rfl⟩
theorem d13_9 : DAt B13 9 (.ireturn) 1 10 := ⟨by decide +kernel, rfl⟩
theorem d13_10 : DAt B13 10 (.iload_n 2) 1 11 := ⟨by decide +kernel, rfl⟩
theorem d13_11 : DAt B13 11 (.ifCond .lt 19) 3 14 := ⟨by decide +kernel, rfl⟩
theorem d13_14 : DAt B13 14 (.iload_n 2) 1 15 := ⟨by decide +kernel, rfl⟩
theorem d13_15 : DAt B13 15 (.aload_n 0) 1 16 := ⟨by decide +kernel, rfl⟩
theorem d13_16 : DAt B13 16 (.getfield 35) 3 19 := ⟨by decide +kernel, rfl⟩
theorem d13_19 : DAt B13 19 (.iload_n 1) 1 20 := ⟨by decide +kernel, rfl⟩
theorem d13_20 : DAt B13 20 (.iaload) 1 21 := ⟨by decide +kernel, rfl⟩
theorem d13_21 : DAt B13 21 (.if_icmp .ge 9) 3 24 := ⟨by decide +kernel, rfl⟩
theorem d13_24 : DAt B13 24 (.iload_n 2) 1 25 := ⟨by decide +kernel, rfl⟩
theorem d13_25 : DAt B13 25 (.bipush 64) 2 27 := ⟨by decide +kernel, rfl⟩
theorem d13_27 : DAt B13 27 (.if_icmp .lt 5) 3 30 := ⟨by decide +kernel, rfl⟩
theorem d13_30 : DAt B13 30 (.iconst (-1)) 1 31 := ⟨by decide +kernel, rfl⟩
theorem d13_31 : DAt B13 31 (.ireturn) 1 32 := ⟨by decide +kernel, rfl⟩
theorem d13_32 : DAt B13 32 (.aload_n 0) 1 33 := ⟨by decide +kernel, rfl⟩
theorem d13_33 : DAt B13 33 (.getfield 32) 3 36 := ⟨by decide +kernel, rfl⟩
theorem d13_36 : DAt B13 36 (.iload_n 1) 1 37 := ⟨by decide +kernel, rfl⟩
theorem d13_37 : DAt B13 37 (.bipush 64) 2 39 := ⟨by decide +kernel, rfl⟩
theorem d13_39 : DAt B13 39 (.imul) 1 40 := ⟨by decide +kernel, rfl⟩
theorem d13_40 : DAt B13 40 (.iload_n 2) 1 41 := ⟨by decide +kernel, rfl⟩
theorem d13_41 : DAt B13 41 (.iadd) 1 42 := ⟨by decide +kernel, rfl⟩
theorem d13_42 : DAt B13 42 (.iaload) 1 43 := ⟨by decide +kernel, rfl⟩
theorem d13_43 : DAt B13 43 (.ireturn) 1 44 := ⟨by decide +kernel, rfl⟩
def B14 : Bdy := ((⟨"CausalStable", "stamp", "(III)I"⟩ : MethodName), prog_1_method_22_code, 5, (some .int), ({ frames := 1, cells := 0, slots := 0, locals := 14 } : Room))
theorem d14_0 : DAt B14 0 (.aload_n 0) 1 1 := ⟨by decide +kernel, rfl⟩
theorem d14_1 : DAt B14 1 (.iload_n 1) 1 2 := ⟨by decide +kernel, rfl⟩
theorem d14_2 : DAt B14 2 (.iload_n 2) 1 3 := ⟨by decide +kernel, rfl⟩
theorem d14_3 : DAt B14 3 (.invokevirtual 52) 3 6 := ⟨by decide +kernel, rfl⟩
theorem d14_6 : DAt B14 6 (.ifCond .eq 11) 3 9 := ⟨by decide +kernel, rfl⟩
theorem d14_9 : DAt B14 9 (.aload_n 0) 1 10 := ⟨by decide +kernel, rfl⟩
theorem d14_10 : DAt B14 10 (.iload_n 3) 1 11 := ⟨by decide +kernel, rfl⟩
theorem d14_11 : DAt B14 11 (.invokevirtual 68) 3 14 := ⟨by decide +kernel, rfl⟩
theorem d14_14 : DAt B14 14 (.ifCond .ne 5) 3 17 := ⟨by decide +kernel, rfl⟩
theorem d14_17 : DAt B14 17 (.iconst (-1)) 1 18 := ⟨by decide +kernel, rfl⟩
theorem d14_18 : DAt B14 18 (.ireturn) 1 19 := ⟨by decide +kernel, rfl⟩
theorem d14_19 : DAt B14 19 (.aload_n 0) 1 20 := ⟨by decide +kernel, rfl⟩
theorem d14_20 : DAt B14 20 (.iload_n 1) 1 21 := ⟨by decide +kernel, rfl⟩
theorem d14_21 : DAt B14 21 (.iload_n 2) 1 22 := ⟨by decide +kernel, rfl⟩
theorem d14_22 : DAt B14 22 (.invokevirtual 56) 3 25 := ⟨by decide +kernel, rfl⟩
theorem d14_25 : DAt B14 25 (.istore 4) 2 27 := ⟨by decide +kernel, rfl⟩
theorem d14_27 : DAt B14 27 (.aload_n 0) 1 28 := ⟨by decide +kernel, rfl⟩
theorem d14_28 : DAt B14 28 (.getfield 23) 3 31 := ⟨by decide +kernel, rfl⟩
theorem d14_31 : DAt B14 31 (.iload 4) 2 33 := ⟨by decide +kernel, rfl⟩
theorem d14_33 : DAt B14 33 (.bipush 8) 2 35 := ⟨by decide +kernel, rfl⟩
theorem d14_35 : DAt B14 35 (.imul) 1 36 := ⟨by decide +kernel, rfl⟩
theorem d14_36 : DAt B14 36 (.iload_n 3) 1 37 := ⟨by decide +kernel, rfl⟩
theorem d14_37 : DAt B14 37 (.iadd) 1 38 := ⟨by decide +kernel, rfl⟩
theorem d14_38 : DAt B14 38 (.iaload) 1 39 := ⟨by decide +kernel, rfl⟩
theorem d14_39 : DAt B14 39 (.ireturn) 1 40 := ⟨by decide +kernel, rfl⟩
def B15 : Bdy := ((⟨"CausalStable", "state", "(III)I"⟩ : MethodName), prog_1_method_24_code, 5, (some .int), ({ frames := 1, cells := 0, slots := 0, locals := 15 } : Room))
theorem d15_0 : DAt B15 0 (.aload_n 0) 1 1 := ⟨by decide +kernel, rfl⟩
theorem d15_1 : DAt B15 1 (.iload_n 1) 1 2 := ⟨by decide +kernel, rfl⟩
theorem d15_2 : DAt B15 2 (.invokevirtual 68) 3 5 := ⟨by decide +kernel, rfl⟩
theorem d15_5 : DAt B15 5 (.ifCond .eq 12) 3 8 := ⟨by decide +kernel, rfl⟩
theorem d15_8 : DAt B15 8 (.aload_n 0) 1 9 := ⟨by decide +kernel, rfl⟩
theorem d15_9 : DAt B15 9 (.iload_n 2) 1 10 := ⟨by decide +kernel, rfl⟩
theorem d15_10 : DAt B15 10 (.iload_n 3) 1 11 := ⟨by decide +kernel, rfl⟩
theorem d15_11 : DAt B15 11 (.invokevirtual 52) 3 14 := ⟨by decide +kernel, rfl⟩
theorem d15_14 : DAt B15 14 (.ifCond .ne 5) 3 17 := ⟨by decide +kernel, rfl⟩
theorem d15_17 : DAt B15 17 (.iconst (-1)) 1 18 := ⟨by decide +kernel, rfl⟩
theorem d15_18 : DAt B15 18 (.ireturn) 1 19 := ⟨by decide +kernel, rfl⟩
theorem d15_19 : DAt B15 19 (.aload_n 0) 1 20 := ⟨by decide +kernel, rfl⟩
theorem d15_20 : DAt B15 20 (.iload_n 1) 1 21 := ⟨by decide +kernel, rfl⟩
theorem d15_21 : DAt B15 21 (.iload_n 2) 1 22 := ⟨by decide +kernel, rfl⟩
theorem d15_22 : DAt B15 22 (.iload_n 3) 1 23 := ⟨by decide +kernel, rfl⟩
theorem d15_23 : DAt B15 23 (.invokevirtual 45) 3 26 := ⟨by decide +kernel, rfl⟩
theorem d15_26 : DAt B15 26 (.istore 4) 2 28 := ⟨by decide +kernel, rfl⟩
theorem d15_28 : DAt B15 28 (.aload_n 0) 1 29 := ⟨by decide +kernel, rfl⟩
theorem d15_29 : DAt B15 29 (.getfield 20) 3 32 := ⟨by decide +kernel, rfl⟩
theorem d15_32 : DAt B15 32 (.iload 4) 2 34 := ⟨by decide +kernel, rfl⟩
theorem d15_34 : DAt B15 34 (.iaload) 1 35 := ⟨by decide +kernel, rfl⟩
theorem d15_35 : DAt B15 35 (.ireturn) 1 36 := ⟨by decide +kernel, rfl⟩
def B16 : Bdy := ((⟨"CausalStable", "delivered", "(II)I"⟩ : MethodName), prog_1_method_25_code, 3, (some .int), ({ frames := 1, cells := 0, slots := 0, locals := 13 } : Room))
theorem d16_0 : DAt B16 0 (.aload_n 0) 1 1 := ⟨by decide +kernel, rfl⟩
theorem d16_1 : DAt B16 1 (.iload_n 1) 1 2 := ⟨by decide +kernel, rfl⟩
theorem d16_2 : DAt B16 2 (.invokevirtual 68) 3 5 := ⟨by decide +kernel, rfl⟩
theorem d16_5 : DAt B16 5 (.ifCond .eq 11) 3 8 := ⟨by decide +kernel, rfl⟩
theorem d16_8 : DAt B16 8 (.aload_n 0) 1 9 := ⟨by decide +kernel, rfl⟩
theorem d16_9 : DAt B16 9 (.iload_n 2) 1 10 := ⟨by decide +kernel, rfl⟩
theorem d16_10 : DAt B16 10 (.invokevirtual 68) 3 13 := ⟨by decide +kernel, rfl⟩
theorem d16_13 : DAt B16 13 (.ifCond .ne 5) 3 16 := ⟨by decide +kernel, rfl⟩
theorem d16_16 : DAt B16 16 (.iconst (-1)) 1 17 := ⟨by decide +kernel, rfl⟩
theorem d16_17 : DAt B16 17 (.ireturn) 1 18 := ⟨by decide +kernel, rfl⟩
theorem d16_18 : DAt B16 18 (.aload_n 0) 1 19 := ⟨by decide +kernel, rfl⟩
theorem d16_19 : DAt B16 19 (.getfield 17) 3 22 := ⟨by decide +kernel, rfl⟩
theorem d16_22 : DAt B16 22 (.iload_n 1) 1 23 := ⟨by decide +kernel, rfl⟩
theorem d16_23 : DAt B16 23 (.bipush 8) 2 25 := ⟨by decide +kernel, rfl⟩
theorem d16_25 : DAt B16 25 (.imul) 1 26 := ⟨by decide +kernel, rfl⟩
theorem d16_26 : DAt B16 26 (.iload_n 2) 1 27 := ⟨by decide +kernel, rfl⟩
theorem d16_27 : DAt B16 27 (.iadd) 1 28 := ⟨by decide +kernel, rfl⟩
theorem d16_28 : DAt B16 28 (.iaload) 1 29 := ⟨by decide +kernel, rfl⟩
theorem d16_29 : DAt B16 29 (.ireturn) 1 30 := ⟨by decide +kernel, rfl⟩
def B17 : Bdy := ((⟨"CausalStable", "known", "(III)I"⟩ : MethodName), prog_1_method_27_code, 5, (some .int), ({ frames := 1, cells := 0, slots := 0, locals := 15 } : Room))
theorem d17_0 : DAt B17 0 (.aload_n 0) 1 1 := ⟨by decide +kernel, rfl⟩
theorem d17_1 : DAt B17 1 (.iload_n 1) 1 2 := ⟨by decide +kernel, rfl⟩
theorem d17_2 : DAt B17 2 (.invokevirtual 68) 3 5 := ⟨by decide +kernel, rfl⟩
theorem d17_5 : DAt B17 5 (.ifCond .eq 19) 3 8 := ⟨by decide +kernel, rfl⟩
theorem d17_8 : DAt B17 8 (.aload_n 0) 1 9 := ⟨by decide +kernel, rfl⟩
theorem d17_9 : DAt B17 9 (.iload_n 2) 1 10 := ⟨by decide +kernel, rfl⟩
theorem d17_10 : DAt B17 10 (.invokevirtual 68) 3 13 := ⟨by decide +kernel, rfl⟩
theorem d17_13 : DAt B17 13 (.ifCond .eq 11) 3 16 := ⟨by decide +kernel, rfl⟩
theorem d17_16 : DAt B17 16 (.aload_n 0) 1 17 := ⟨by decide +kernel, rfl⟩
theorem d17_17 : DAt B17 17 (.iload_n 3) 1 18 := ⟨by decide +kernel, rfl⟩
theorem d17_18 : DAt B17 18 (.invokevirtual 68) 3 21 := ⟨by decide +kernel, rfl⟩
theorem d17_21 : DAt B17 21 (.ifCond .ne 5) 3 24 := ⟨by decide +kernel, rfl⟩
theorem d17_24 : DAt B17 24 (.iconst (-1)) 1 25 := ⟨by decide +kernel, rfl⟩
theorem d17_25 : DAt B17 25 (.ireturn) 1 26 := ⟨by decide +kernel, rfl⟩
theorem d17_26 : DAt B17 26 (.aload_n 0) 1 27 := ⟨by decide +kernel, rfl⟩
theorem d17_27 : DAt B17 27 (.iload_n 1) 1 28 := ⟨by decide +kernel, rfl⟩
theorem d17_28 : DAt B17 28 (.iload_n 2) 1 29 := ⟨by decide +kernel, rfl⟩
theorem d17_29 : DAt B17 29 (.iload_n 3) 1 30 := ⟨by decide +kernel, rfl⟩
theorem d17_30 : DAt B17 30 (.invokevirtual 49) 3 33 := ⟨by decide +kernel, rfl⟩
theorem d17_33 : DAt B17 33 (.istore 4) 2 35 := ⟨by decide +kernel, rfl⟩
theorem d17_35 : DAt B17 35 (.aload_n 0) 1 36 := ⟨by decide +kernel, rfl⟩
theorem d17_36 : DAt B17 36 (.getfield 29) 3 39 := ⟨by decide +kernel, rfl⟩
theorem d17_39 : DAt B17 39 (.iload 4) 2 41 := ⟨by decide +kernel, rfl⟩
theorem d17_41 : DAt B17 41 (.iaload) 1 42 := ⟨by decide +kernel, rfl⟩
theorem d17_42 : DAt B17 42 (.ireturn) 1 43 := ⟨by decide +kernel, rfl⟩
def B18 : Bdy := ((⟨"CausalStable", "copies", "(III)I"⟩ : MethodName), prog_1_method_23_code, 5, (some .int), ({ frames := 1, cells := 0, slots := 0, locals := 15 } : Room))
theorem d18_0 : DAt B18 0 (.aload_n 0) 1 1 := ⟨by decide +kernel, rfl⟩
theorem d18_1 : DAt B18 1 (.iload_n 1) 1 2 := ⟨by decide +kernel, rfl⟩
theorem d18_2 : DAt B18 2 (.iload_n 2) 1 3 := ⟨by decide +kernel, rfl⟩
theorem d18_3 : DAt B18 3 (.invokevirtual 52) 3 6 := ⟨by decide +kernel, rfl⟩
theorem d18_6 : DAt B18 6 (.ifCond .eq 11) 3 9 := ⟨by decide +kernel, rfl⟩
theorem d18_9 : DAt B18 9 (.aload_n 0) 1 10 := ⟨by decide +kernel, rfl⟩
theorem d18_10 : DAt B18 10 (.iload_n 3) 1 11 := ⟨by decide +kernel, rfl⟩
theorem d18_11 : DAt B18 11 (.invokevirtual 68) 3 14 := ⟨by decide +kernel, rfl⟩
theorem d18_14 : DAt B18 14 (.ifCond .ne 5) 3 17 := ⟨by decide +kernel, rfl⟩
theorem d18_17 : DAt B18 17 (.iconst (-1)) 1 18 := ⟨by decide +kernel, rfl⟩
theorem d18_18 : DAt B18 18 (.ireturn) 1 19 := ⟨by decide +kernel, rfl⟩
theorem d18_19 : DAt B18 19 (.aload_n 0) 1 20 := ⟨by decide +kernel, rfl⟩
theorem d18_20 : DAt B18 20 (.iload_n 1) 1 21 := ⟨by decide +kernel, rfl⟩
theorem d18_21 : DAt B18 21 (.iload_n 2) 1 22 := ⟨by decide +kernel, rfl⟩
theorem d18_22 : DAt B18 22 (.iload_n 3) 1 23 := ⟨by decide +kernel, rfl⟩
theorem d18_23 : DAt B18 23 (.invokevirtual 72) 3 26 := ⟨by decide +kernel, rfl⟩
theorem d18_26 : DAt B18 26 (.istore 4) 2 28 := ⟨by decide +kernel, rfl⟩
theorem d18_28 : DAt B18 28 (.aload_n 0) 1 29 := ⟨by decide +kernel, rfl⟩
theorem d18_29 : DAt B18 29 (.getfield 26) 3 32 := ⟨by decide +kernel, rfl⟩
theorem d18_32 : DAt B18 32 (.iload 4) 2 34 := ⟨by decide +kernel, rfl⟩
theorem d18_34 : DAt B18 34 (.iaload) 1 35 := ⟨by decide +kernel, rfl⟩
theorem d18_35 : DAt B18 35 (.ireturn) 1 36 := ⟨by decide +kernel, rfl⟩
def B0 : Bdy := (x, code, maxLocals, ret, room_1)
theorem d0_0 : DAt B0 0 (.new 7) 3 3 := ⟨at_0, rfl⟩
theorem d0_3 : DAt B0 3 (.dup) 1 4 := ⟨at_3, rfl⟩
theorem d0_4 : DAt B0 4 (.bipush 8) 2 6 := ⟨at_4, rfl⟩
theorem d0_6 : DAt B0 6 (.iload_n 3) 1 7 := ⟨at_6, rfl⟩
theorem d0_7 : DAt B0 7 (.invokespecial 9) 3 10 := ⟨at_7, rfl⟩
theorem d0_10 : DAt B0 10 (.astore 4) 2 12 := ⟨at_10, rfl⟩
theorem d0_12 : DAt B0 12 (.iload_n 0) 1 13 := ⟨at_12, rfl⟩
theorem d0_13 : DAt B0 13 (.bipush 7) 2 15 := ⟨at_13, rfl⟩
theorem d0_15 : DAt B0 15 (.iand) 1 16 := ⟨at_15, rfl⟩
theorem d0_16 : DAt B0 16 (.istore 5) 2 18 := ⟨at_16, rfl⟩
theorem d0_18 : DAt B0 18 (.iload_n 1) 1 19 := ⟨at_18, rfl⟩
theorem d0_19 : DAt B0 19 (.bipush 7) 2 21 := ⟨at_19, rfl⟩
theorem d0_21 : DAt B0 21 (.irem) 1 22 := ⟨at_21, rfl⟩
theorem d0_22 : DAt B0 22 (.bipush 7) 2 24 := ⟨at_22, rfl⟩
theorem d0_24 : DAt B0 24 (.iadd) 1 25 := ⟨at_24, rfl⟩
theorem d0_25 : DAt B0 25 (.bipush 7) 2 27 := ⟨at_25, rfl⟩
theorem d0_27 : DAt B0 27 (.irem) 1 28 := ⟨at_27, rfl⟩
theorem d0_28 : DAt B0 28 (.istore 6) 2 30 := ⟨at_28, rfl⟩
theorem d0_30 : DAt B0 30 (.iload 5) 2 32 := ⟨at_30, rfl⟩
theorem d0_32 : DAt B0 32 (.iconst 1) 1 33 := ⟨at_32, rfl⟩
theorem d0_33 : DAt B0 33 (.iadd) 1 34 := ⟨at_33, rfl⟩
theorem d0_34 : DAt B0 34 (.iload 6) 2 36 := ⟨at_34, rfl⟩
theorem d0_36 : DAt B0 36 (.iadd) 1 37 := ⟨at_36, rfl⟩
theorem d0_37 : DAt B0 37 (.bipush 8) 2 39 := ⟨at_37, rfl⟩
theorem d0_39 : DAt B0 39 (.irem) 1 40 := ⟨at_39, rfl⟩
theorem d0_40 : DAt B0 40 (.istore 7) 2 42 := ⟨at_40, rfl⟩
theorem d0_42 : DAt B0 42 (.iload_n 2) 1 43 := ⟨at_42, rfl⟩
theorem d0_43 : DAt B0 43 (.bipush 6) 2 45 := ⟨at_43, rfl⟩
theorem d0_45 : DAt B0 45 (.irem) 1 46 := ⟨at_45, rfl⟩
theorem d0_46 : DAt B0 46 (.bipush 6) 2 48 := ⟨at_46, rfl⟩
theorem d0_48 : DAt B0 48 (.iadd) 1 49 := ⟨at_48, rfl⟩
theorem d0_49 : DAt B0 49 (.bipush 6) 2 51 := ⟨at_49, rfl⟩
theorem d0_51 : DAt B0 51 (.irem) 1 52 := ⟨at_51, rfl⟩
theorem d0_52 : DAt B0 52 (.istore 8) 2 54 := ⟨at_52, rfl⟩
theorem d0_54 : DAt B0 54 (.iload 8) 2 56 := ⟨at_54, rfl⟩
theorem d0_56 : DAt B0 56 (.iload 6) 2 58 := ⟨at_56, rfl⟩
theorem d0_58 : DAt B0 58 (.if_icmp .ge 10) 3 61 := ⟨at_58, rfl⟩
theorem d0_61 : DAt B0 61 (.iconst 1) 1 62 := ⟨at_61, rfl⟩
theorem d0_62 : DAt B0 62 (.iload 8) 2 64 := ⟨at_62, rfl⟩
theorem d0_64 : DAt B0 64 (.iadd) 1 65 := ⟨at_64, rfl⟩
theorem d0_65 : DAt B0 65 (.goto 7) 3 68 := ⟨at_65, rfl⟩
theorem d0_68 : DAt B0 68 (.iconst 2) 1 69 := ⟨at_68, rfl⟩
theorem d0_69 : DAt B0 69 (.iload 8) 2 71 := ⟨at_69, rfl⟩
theorem d0_71 : DAt B0 71 (.iadd) 1 72 := ⟨at_71, rfl⟩
theorem d0_72 : DAt B0 72 (.istore 9) 2 74 := ⟨at_72, rfl⟩
theorem d0_74 : DAt B0 74 (.iload 5) 2 76 := ⟨at_74, rfl⟩
theorem d0_76 : DAt B0 76 (.iload 9) 2 78 := ⟨at_76, rfl⟩
theorem d0_78 : DAt B0 78 (.iadd) 1 79 := ⟨at_78, rfl⟩
theorem d0_79 : DAt B0 79 (.bipush 8) 2 81 := ⟨at_79, rfl⟩
theorem d0_81 : DAt B0 81 (.irem) 1 82 := ⟨at_81, rfl⟩
theorem d0_82 : DAt B0 82 (.istore 10) 2 84 := ⟨at_82, rfl⟩
theorem d0_84 : DAt B0 84 (.iload 5) 2 86 := ⟨at_84, rfl⟩
theorem d0_86 : DAt B0 86 (.bipush 16) 2 88 := ⟨at_86, rfl⟩
theorem d0_88 : DAt B0 88 (.imul) 1 89 := ⟨at_88, rfl⟩
theorem d0_89 : DAt B0 89 (.iconst 1) 1 90 := ⟨at_89, rfl⟩
theorem d0_90 : DAt B0 90 (.iadd) 1 91 := ⟨at_90, rfl⟩
theorem d0_91 : DAt B0 91 (.istore 11) 2 93 := ⟨at_91, rfl⟩
theorem d0_93 : DAt B0 93 (.iload 7) 2 95 := ⟨at_93, rfl⟩
theorem d0_95 : DAt B0 95 (.bipush 16) 2 97 := ⟨at_95, rfl⟩
theorem d0_97 : DAt B0 97 (.imul) 1 98 := ⟨at_97, rfl⟩
theorem d0_98 : DAt B0 98 (.iconst 1) 1 99 := ⟨at_98, rfl⟩
theorem d0_99 : DAt B0 99 (.iadd) 1 100 := ⟨at_99, rfl⟩
theorem d0_100 : DAt B0 100 (.istore 12) 2 102 := ⟨at_100, rfl⟩
theorem d0_102 : DAt B0 102 (.aload 4) 2 104 := ⟨at_102, rfl⟩
theorem d0_104 : DAt B0 104 (.iload 5) 2 106 := ⟨at_104, rfl⟩
theorem d0_106 : DAt B0 106 (.invokevirtual 12) 3 109 := ⟨at_106, rfl⟩
theorem d0_109 : DAt B0 109 (.iconst 1) 1 110 := ⟨at_109, rfl⟩
theorem d0_110 : DAt B0 110 (.if_icmp .eq 5) 3 113 := ⟨at_110, rfl⟩
theorem d0_113 : DAt B0 113 (.iconst 0) 1 114 := ⟨at_113, rfl⟩
theorem d0_114 : DAt B0 114 (.ireturn) 1 115 := ⟨at_114, rfl⟩
theorem d0_115 : DAt B0 115 (.aload 4) 2 117 := ⟨at_115, rfl⟩
theorem d0_117 : DAt B0 117 (.iload 7) 2 119 := ⟨at_117, rfl⟩
theorem d0_119 : DAt B0 119 (.iload 5) 2 121 := ⟨at_119, rfl⟩
theorem d0_121 : DAt B0 121 (.iconst 1) 1 122 := ⟨at_121, rfl⟩
theorem d0_122 : DAt B0 122 (.invokevirtual 16) 3 125 := ⟨at_122, rfl⟩
theorem d0_125 : DAt B0 125 (.iconst 1) 1 126 := ⟨at_125, rfl⟩
theorem d0_126 : DAt B0 126 (.if_icmp .eq 5) 3 129 := ⟨at_126, rfl⟩
theorem d0_129 : DAt B0 129 (.iconst 0) 1 130 := ⟨at_129, rfl⟩
theorem d0_130 : DAt B0 130 (.ireturn) 1 131 := ⟨at_130, rfl⟩
theorem d0_131 : DAt B0 131 (.aload 4) 2 133 := ⟨at_131, rfl⟩
theorem d0_133 : DAt B0 133 (.iload 7) 2 135 := ⟨at_133, rfl⟩
theorem d0_135 : DAt B0 135 (.iconst 0) 1 136 := ⟨at_135, rfl⟩
theorem d0_136 : DAt B0 136 (.invokevirtual 20) 3 139 := ⟨at_136, rfl⟩
theorem d0_139 : DAt B0 139 (.iload 11) 2 141 := ⟨at_139, rfl⟩
theorem d0_141 : DAt B0 141 (.if_icmp .eq 5) 3 144 := ⟨at_141, rfl⟩
theorem d0_144 : DAt B0 144 (.iconst 0) 1 145 := ⟨at_144, rfl⟩
theorem d0_145 : DAt B0 145 (.ireturn) 1 146 := ⟨at_145, rfl⟩
theorem d0_146 : DAt B0 146 (.aload 4) 2 148 := ⟨at_146, rfl⟩
theorem d0_148 : DAt B0 148 (.iload 7) 2 150 := ⟨at_148, rfl⟩
theorem d0_150 : DAt B0 150 (.invokevirtual 12) 3 153 := ⟨at_150, rfl⟩
theorem d0_153 : DAt B0 153 (.iconst 1) 1 154 := ⟨at_153, rfl⟩
theorem d0_154 : DAt B0 154 (.if_icmp .eq 5) 3 157 := ⟨at_154, rfl⟩
theorem d0_157 : DAt B0 157 (.iconst 0) 1 158 := ⟨at_157, rfl⟩
theorem d0_158 : DAt B0 158 (.ireturn) 1 159 := ⟨at_158, rfl⟩
theorem d0_159 : DAt B0 159 (.aload 4) 2 161 := ⟨at_159, rfl⟩
theorem d0_161 : DAt B0 161 (.iload 7) 2 163 := ⟨at_161, rfl⟩
theorem d0_163 : DAt B0 163 (.iconst 1) 1 164 := ⟨at_163, rfl⟩
theorem d0_164 : DAt B0 164 (.invokevirtual 20) 3 167 := ⟨at_164, rfl⟩
theorem d0_167 : DAt B0 167 (.iload 12) 2 169 := ⟨at_167, rfl⟩
theorem d0_169 : DAt B0 169 (.if_icmp .eq 5) 3 172 := ⟨at_169, rfl⟩
theorem d0_172 : DAt B0 172 (.iconst 0) 1 173 := ⟨at_172, rfl⟩
theorem d0_173 : DAt B0 173 (.ireturn) 1 174 := ⟨at_173, rfl⟩
theorem d0_174 : DAt B0 174 (.aload 4) 2 176 := ⟨at_174, rfl⟩
theorem d0_176 : DAt B0 176 (.iload 7) 2 178 := ⟨at_176, rfl⟩
theorem d0_178 : DAt B0 178 (.iconst 1) 1 179 := ⟨at_178, rfl⟩
theorem d0_179 : DAt B0 179 (.iload 5) 2 181 := ⟨at_179, rfl⟩
theorem d0_181 : DAt B0 181 (.invokevirtual 24) 3 184 := ⟨at_181, rfl⟩
theorem d0_184 : DAt B0 184 (.iconst 1) 1 185 := ⟨at_184, rfl⟩
theorem d0_185 : DAt B0 185 (.if_icmp .eq 5) 3 188 := ⟨at_185, rfl⟩
theorem d0_188 : DAt B0 188 (.iconst 0) 1 189 := ⟨at_188, rfl⟩
theorem d0_189 : DAt B0 189 (.ireturn) 1 190 := ⟨at_189, rfl⟩
theorem d0_190 : DAt B0 190 (.aload 4) 2 192 := ⟨at_190, rfl⟩
theorem d0_192 : DAt B0 192 (.iload 7) 2 194 := ⟨at_192, rfl⟩
theorem d0_194 : DAt B0 194 (.iconst 1) 1 195 := ⟨at_194, rfl⟩
theorem d0_195 : DAt B0 195 (.iload 7) 2 197 := ⟨at_195, rfl⟩
theorem d0_197 : DAt B0 197 (.invokevirtual 24) 3 200 := ⟨at_197, rfl⟩
theorem d0_200 : DAt B0 200 (.iconst 1) 1 201 := ⟨at_200, rfl⟩
theorem d0_201 : DAt B0 201 (.if_icmp .eq 5) 3 204 := ⟨at_201, rfl⟩
theorem d0_204 : DAt B0 204 (.iconst 0) 1 205 := ⟨at_204, rfl⟩
theorem d0_205 : DAt B0 205 (.ireturn) 1 206 := ⟨at_205, rfl⟩
theorem d0_206 : DAt B0 206 (.aload 4) 2 208 := ⟨at_206, rfl⟩
theorem d0_208 : DAt B0 208 (.iload 7) 2 210 := ⟨at_208, rfl⟩
theorem d0_210 : DAt B0 210 (.iconst 1) 1 211 := ⟨at_210, rfl⟩
theorem d0_211 : DAt B0 211 (.iload 10) 2 213 := ⟨at_211, rfl⟩
theorem d0_213 : DAt B0 213 (.invokevirtual 24) 3 216 := ⟨at_213, rfl⟩
theorem d0_216 : DAt B0 216 (.ifCond .eq 5) 3 219 := ⟨at_216, rfl⟩
theorem d0_219 : DAt B0 219 (.iconst 0) 1 220 := ⟨at_219, rfl⟩
theorem d0_220 : DAt B0 220 (.ireturn) 1 221 := ⟨at_220, rfl⟩
theorem d0_221 : DAt B0 221 (.aload 4) 2 223 := ⟨at_221, rfl⟩
theorem d0_223 : DAt B0 223 (.iload 10) 2 225 := ⟨at_223, rfl⟩
theorem d0_225 : DAt B0 225 (.iload 7) 2 227 := ⟨at_225, rfl⟩
theorem d0_227 : DAt B0 227 (.iconst 1) 1 228 := ⟨at_227, rfl⟩
theorem d0_228 : DAt B0 228 (.invokevirtual 16) 3 231 := ⟨at_228, rfl⟩
theorem d0_231 : DAt B0 231 (.ifCond .eq 5) 3 234 := ⟨at_231, rfl⟩
theorem d0_234 : DAt B0 234 (.iconst 0) 1 235 := ⟨at_234, rfl⟩
theorem d0_235 : DAt B0 235 (.ireturn) 1 236 := ⟨at_235, rfl⟩
theorem d0_236 : DAt B0 236 (.aload 4) 2 238 := ⟨at_236, rfl⟩
theorem d0_238 : DAt B0 238 (.iload 10) 2 240 := ⟨at_238, rfl⟩
theorem d0_240 : DAt B0 240 (.iload 7) 2 242 := ⟨at_240, rfl⟩
theorem d0_242 : DAt B0 242 (.iconst 1) 1 243 := ⟨at_242, rfl⟩
theorem d0_243 : DAt B0 243 (.invokevirtual 27) 3 246 := ⟨at_243, rfl⟩
theorem d0_246 : DAt B0 246 (.iconst 1) 1 247 := ⟨at_246, rfl⟩
theorem d0_247 : DAt B0 247 (.if_icmp .eq 5) 3 250 := ⟨at_247, rfl⟩
theorem d0_250 : DAt B0 250 (.iconst 0) 1 251 := ⟨at_250, rfl⟩
theorem d0_251 : DAt B0 251 (.ireturn) 1 252 := ⟨at_251, rfl⟩
theorem d0_252 : DAt B0 252 (.aload 4) 2 254 := ⟨at_252, rfl⟩
theorem d0_254 : DAt B0 254 (.iload 10) 2 256 := ⟨at_254, rfl⟩
theorem d0_256 : DAt B0 256 (.iload 7) 2 258 := ⟨at_256, rfl⟩
theorem d0_258 : DAt B0 258 (.invokevirtual 30) 3 261 := ⟨at_258, rfl⟩
theorem d0_261 : DAt B0 261 (.ifCond .eq 5) 3 264 := ⟨at_261, rfl⟩
theorem d0_264 : DAt B0 264 (.iconst 0) 1 265 := ⟨at_264, rfl⟩
theorem d0_265 : DAt B0 265 (.ireturn) 1 266 := ⟨at_265, rfl⟩
theorem d0_266 : DAt B0 266 (.aload 4) 2 268 := ⟨at_266, rfl⟩
theorem d0_268 : DAt B0 268 (.iload 10) 2 270 := ⟨at_268, rfl⟩
theorem d0_270 : DAt B0 270 (.iconst 0) 1 271 := ⟨at_270, rfl⟩
theorem d0_271 : DAt B0 271 (.invokevirtual 20) 3 274 := ⟨at_271, rfl⟩
theorem d0_274 : DAt B0 274 (.iconst (-1)) 1 275 := ⟨at_274, rfl⟩
theorem d0_275 : DAt B0 275 (.if_icmp .eq 5) 3 278 := ⟨at_275, rfl⟩
theorem d0_278 : DAt B0 278 (.iconst 0) 1 279 := ⟨at_278, rfl⟩
theorem d0_279 : DAt B0 279 (.ireturn) 1 280 := ⟨at_279, rfl⟩
theorem d0_280 : DAt B0 280 (.aload 4) 2 282 := ⟨at_280, rfl⟩
theorem d0_282 : DAt B0 282 (.iload 10) 2 284 := ⟨at_282, rfl⟩
theorem d0_284 : DAt B0 284 (.iload 5) 2 286 := ⟨at_284, rfl⟩
theorem d0_286 : DAt B0 286 (.iconst 1) 1 287 := ⟨at_286, rfl⟩
theorem d0_287 : DAt B0 287 (.invokevirtual 16) 3 290 := ⟨at_287, rfl⟩
theorem d0_290 : DAt B0 290 (.iconst 2) 1 291 := ⟨at_290, rfl⟩
theorem d0_291 : DAt B0 291 (.if_icmp .eq 5) 3 294 := ⟨at_291, rfl⟩
theorem d0_294 : DAt B0 294 (.iconst 0) 1 295 := ⟨at_294, rfl⟩
theorem d0_295 : DAt B0 295 (.ireturn) 1 296 := ⟨at_295, rfl⟩
theorem d0_296 : DAt B0 296 (.aload 4) 2 298 := ⟨at_296, rfl⟩
theorem d0_298 : DAt B0 298 (.iload 10) 2 300 := ⟨at_298, rfl⟩
theorem d0_300 : DAt B0 300 (.iconst 0) 1 301 := ⟨at_300, rfl⟩
theorem d0_301 : DAt B0 301 (.invokevirtual 20) 3 304 := ⟨at_301, rfl⟩
theorem d0_304 : DAt B0 304 (.iload 11) 2 306 := ⟨at_304, rfl⟩
theorem d0_306 : DAt B0 306 (.if_icmp .eq 5) 3 309 := ⟨at_306, rfl⟩
theorem d0_309 : DAt B0 309 (.iconst 0) 1 310 := ⟨at_309, rfl⟩
theorem d0_310 : DAt B0 310 (.ireturn) 1 311 := ⟨at_310, rfl⟩
theorem d0_311 : DAt B0 311 (.aload 4) 2 313 := ⟨at_311, rfl⟩
theorem d0_313 : DAt B0 313 (.iload 10) 2 315 := ⟨at_313, rfl⟩
theorem d0_315 : DAt B0 315 (.iconst 1) 1 316 := ⟨at_315, rfl⟩
theorem d0_316 : DAt B0 316 (.invokevirtual 20) 3 319 := ⟨at_316, rfl⟩
theorem d0_319 : DAt B0 319 (.iload 12) 2 321 := ⟨at_319, rfl⟩
theorem d0_321 : DAt B0 321 (.if_icmp .eq 5) 3 324 := ⟨at_321, rfl⟩
theorem d0_324 : DAt B0 324 (.iconst 0) 1 325 := ⟨at_324, rfl⟩
theorem d0_325 : DAt B0 325 (.ireturn) 1 326 := ⟨at_325, rfl⟩
theorem d0_326 : DAt B0 326 (.aload 4) 2 328 := ⟨at_326, rfl⟩
theorem d0_328 : DAt B0 328 (.iload 10) 2 330 := ⟨at_328, rfl⟩
theorem d0_330 : DAt B0 330 (.iconst 2) 1 331 := ⟨at_330, rfl⟩
theorem d0_331 : DAt B0 331 (.invokevirtual 20) 3 334 := ⟨at_331, rfl⟩
theorem d0_334 : DAt B0 334 (.iconst (-1)) 1 335 := ⟨at_334, rfl⟩
theorem d0_335 : DAt B0 335 (.if_icmp .eq 5) 3 338 := ⟨at_335, rfl⟩
theorem d0_338 : DAt B0 338 (.iconst 0) 1 339 := ⟨at_338, rfl⟩
theorem d0_339 : DAt B0 339 (.ireturn) 1 340 := ⟨at_339, rfl⟩
theorem d0_340 : DAt B0 340 (.aload 4) 2 342 := ⟨at_340, rfl⟩
theorem d0_342 : DAt B0 342 (.iload 10) 2 344 := ⟨at_342, rfl⟩
theorem d0_344 : DAt B0 344 (.iload 5) 2 346 := ⟨at_344, rfl⟩
theorem d0_346 : DAt B0 346 (.invokevirtual 30) 3 349 := ⟨at_346, rfl⟩
theorem d0_349 : DAt B0 349 (.iconst 1) 1 350 := ⟨at_349, rfl⟩
theorem d0_350 : DAt B0 350 (.if_icmp .eq 5) 3 353 := ⟨at_350, rfl⟩
theorem d0_353 : DAt B0 353 (.iconst 0) 1 354 := ⟨at_353, rfl⟩
theorem d0_354 : DAt B0 354 (.ireturn) 1 355 := ⟨at_354, rfl⟩
theorem d0_355 : DAt B0 355 (.aload 4) 2 357 := ⟨at_355, rfl⟩
theorem d0_357 : DAt B0 357 (.iload 10) 2 359 := ⟨at_357, rfl⟩
theorem d0_359 : DAt B0 359 (.iload 7) 2 361 := ⟨at_359, rfl⟩
theorem d0_361 : DAt B0 361 (.invokevirtual 30) 3 364 := ⟨at_361, rfl⟩
theorem d0_364 : DAt B0 364 (.iconst 1) 1 365 := ⟨at_364, rfl⟩
theorem d0_365 : DAt B0 365 (.if_icmp .eq 5) 3 368 := ⟨at_365, rfl⟩
theorem d0_368 : DAt B0 368 (.iconst 0) 1 369 := ⟨at_368, rfl⟩
theorem d0_369 : DAt B0 369 (.ireturn) 1 370 := ⟨at_369, rfl⟩
theorem d0_370 : DAt B0 370 (.aload 4) 2 372 := ⟨at_370, rfl⟩
theorem d0_372 : DAt B0 372 (.iload 10) 2 374 := ⟨at_372, rfl⟩
theorem d0_374 : DAt B0 374 (.iload 5) 2 376 := ⟨at_374, rfl⟩
theorem d0_376 : DAt B0 376 (.iconst 1) 1 377 := ⟨at_376, rfl⟩
theorem d0_377 : DAt B0 377 (.invokevirtual 27) 3 380 := ⟨at_377, rfl⟩
theorem d0_380 : DAt B0 380 (.iconst 2) 1 381 := ⟨at_380, rfl⟩
theorem d0_381 : DAt B0 381 (.if_icmp .eq 5) 3 384 := ⟨at_381, rfl⟩
theorem d0_384 : DAt B0 384 (.iconst 0) 1 385 := ⟨at_384, rfl⟩
theorem d0_385 : DAt B0 385 (.ireturn) 1 386 := ⟨at_385, rfl⟩
theorem d0_386 : DAt B0 386 (.aload 4) 2 388 := ⟨at_386, rfl⟩
theorem d0_388 : DAt B0 388 (.iload 10) 2 390 := ⟨at_388, rfl⟩
theorem d0_390 : DAt B0 390 (.iload 7) 2 392 := ⟨at_390, rfl⟩
theorem d0_392 : DAt B0 392 (.iconst 1) 1 393 := ⟨at_392, rfl⟩
theorem d0_393 : DAt B0 393 (.invokevirtual 27) 3 396 := ⟨at_393, rfl⟩
theorem d0_396 : DAt B0 396 (.iconst 2) 1 397 := ⟨at_396, rfl⟩
theorem d0_397 : DAt B0 397 (.if_icmp .eq 5) 3 400 := ⟨at_397, rfl⟩
theorem d0_400 : DAt B0 400 (.iconst 0) 1 401 := ⟨at_400, rfl⟩
theorem d0_401 : DAt B0 401 (.ireturn) 1 402 := ⟨at_401, rfl⟩
theorem d0_402 : DAt B0 402 (.aload 4) 2 404 := ⟨at_402, rfl⟩
theorem d0_404 : DAt B0 404 (.iload 10) 2 406 := ⟨at_404, rfl⟩
theorem d0_406 : DAt B0 406 (.iload 10) 2 408 := ⟨at_406, rfl⟩
theorem d0_408 : DAt B0 408 (.iload 5) 2 410 := ⟨at_408, rfl⟩
theorem d0_410 : DAt B0 410 (.invokevirtual 33) 3 413 := ⟨at_410, rfl⟩
theorem d0_413 : DAt B0 413 (.iconst 1) 1 414 := ⟨at_413, rfl⟩
theorem d0_414 : DAt B0 414 (.if_icmp .eq 5) 3 417 := ⟨at_414, rfl⟩
theorem d0_417 : DAt B0 417 (.iconst 0) 1 418 := ⟨at_417, rfl⟩
theorem d0_418 : DAt B0 418 (.ireturn) 1 419 := ⟨at_418, rfl⟩
theorem d0_419 : DAt B0 419 (.aload 4) 2 421 := ⟨at_419, rfl⟩
theorem d0_421 : DAt B0 421 (.iload 10) 2 423 := ⟨at_421, rfl⟩
theorem d0_423 : DAt B0 423 (.iload 10) 2 425 := ⟨at_423, rfl⟩
theorem d0_425 : DAt B0 425 (.iload 7) 2 427 := ⟨at_425, rfl⟩
theorem d0_427 : DAt B0 427 (.invokevirtual 33) 3 430 := ⟨at_427, rfl⟩
theorem d0_430 : DAt B0 430 (.iconst 1) 1 431 := ⟨at_430, rfl⟩
theorem d0_431 : DAt B0 431 (.if_icmp .eq 5) 3 434 := ⟨at_431, rfl⟩
theorem d0_434 : DAt B0 434 (.iconst 0) 1 435 := ⟨at_434, rfl⟩
theorem d0_435 : DAt B0 435 (.ireturn) 1 436 := ⟨at_435, rfl⟩
theorem d0_436 : DAt B0 436 (.aload 4) 2 438 := ⟨at_436, rfl⟩
theorem d0_438 : DAt B0 438 (.iload 5) 2 440 := ⟨at_438, rfl⟩
theorem d0_440 : DAt B0 440 (.iconst 1) 1 441 := ⟨at_440, rfl⟩
theorem d0_441 : DAt B0 441 (.iload 10) 2 443 := ⟨at_441, rfl⟩
theorem d0_443 : DAt B0 443 (.invokevirtual 36) 3 446 := ⟨at_443, rfl⟩
theorem d0_446 : DAt B0 446 (.ifCond .eq 5) 3 449 := ⟨at_446, rfl⟩
theorem d0_449 : DAt B0 449 (.iconst 0) 1 450 := ⟨at_449, rfl⟩
theorem d0_450 : DAt B0 450 (.ireturn) 1 451 := ⟨at_450, rfl⟩
theorem d0_451 : DAt B0 451 (.aload 4) 2 453 := ⟨at_451, rfl⟩
theorem d0_453 : DAt B0 453 (.iload 7) 2 455 := ⟨at_453, rfl⟩
theorem d0_455 : DAt B0 455 (.iconst 1) 1 456 := ⟨at_455, rfl⟩
theorem d0_456 : DAt B0 456 (.iload 10) 2 458 := ⟨at_456, rfl⟩
theorem d0_458 : DAt B0 458 (.invokevirtual 36) 3 461 := ⟨at_458, rfl⟩
theorem d0_461 : DAt B0 461 (.ifCond .eq 5) 3 464 := ⟨at_461, rfl⟩
theorem d0_464 : DAt B0 464 (.iconst 0) 1 465 := ⟨at_464, rfl⟩
theorem d0_465 : DAt B0 465 (.ireturn) 1 466 := ⟨at_465, rfl⟩
theorem d0_466 : DAt B0 466 (.aload 4) 2 468 := ⟨at_466, rfl⟩
theorem d0_468 : DAt B0 468 (.iload 10) 2 470 := ⟨at_468, rfl⟩
theorem d0_470 : DAt B0 470 (.iload 5) 2 472 := ⟨at_470, rfl⟩
theorem d0_472 : DAt B0 472 (.iconst 1) 1 473 := ⟨at_472, rfl⟩
theorem d0_473 : DAt B0 473 (.invokevirtual 16) 3 476 := ⟨at_473, rfl⟩
theorem d0_476 : DAt B0 476 (.bipush (-4)) 2 478 := ⟨at_476, rfl⟩
theorem d0_478 : DAt B0 478 (.if_icmp .eq 5) 3 481 := ⟨at_478, rfl⟩
theorem d0_481 : DAt B0 481 (.iconst 0) 1 482 := ⟨at_481, rfl⟩
theorem d0_482 : DAt B0 482 (.ireturn) 1 483 := ⟨at_482, rfl⟩
theorem d0_483 : DAt B0 483 (.iconst 1) 1 484 := ⟨at_483, rfl⟩
theorem d0_484 : DAt B0 484 (.ireturn) 1 485 := ⟨at_484, rfl⟩
theorem ar1 : arity B1 2 := ⟨[.int, .int], none, by decide +kernel, rfl⟩
theorem ar2 : arity B2 1 := ⟨[.int], some .int, by decide +kernel, rfl⟩
theorem ar3 : arity B3 1 := ⟨[.int], some .boolean, by decide +kernel, rfl⟩
theorem ar4 : arity B4 2 := ⟨[.int, .int], some .int, by decide +kernel, rfl⟩
theorem ar5 : arity B5 3 := ⟨[.int, .int, .int], none, by decide +kernel, rfl⟩
theorem ar6 : arity B6 3 := ⟨[.int, .int, .int], some .int, by decide +kernel, rfl⟩
theorem ar7 : arity B7 3 := ⟨[.int, .int, .int], some .int, by decide +kernel, rfl⟩
theorem ar8 : arity B8 3 := ⟨[.int, .int, .int], some .int, by decide +kernel, rfl⟩
theorem ar9 : arity B9 2 := ⟨[.int, .int], some .boolean, by decide +kernel, rfl⟩
theorem ar10 : arity B10 3 := ⟨[.int, .int, .int], some .int, by decide +kernel, rfl⟩
theorem ar11 : arity B11 1 := ⟨[.int], some .int, by decide +kernel, rfl⟩
theorem ar12 : arity B12 3 := ⟨[.int, .int, .int], some .boolean, by decide +kernel, rfl⟩
theorem ar13 : arity B13 2 := ⟨[.int, .int], some .int, by decide +kernel, rfl⟩
theorem ar14 : arity B14 3 := ⟨[.int, .int, .int], some .int, by decide +kernel, rfl⟩
theorem ar15 : arity B15 3 := ⟨[.int, .int, .int], some .int, by decide +kernel, rfl⟩
theorem ar16 : arity B16 2 := ⟨[.int, .int], some .int, by decide +kernel, rfl⟩
theorem ar17 : arity B17 3 := ⟨[.int, .int, .int], some .int, by decide +kernel, rfl⟩
theorem ar18 : arity B18 3 := ⟨[.int, .int, .int], some .int, by decide +kernel, rfl⟩
theorem cw1 : code_w B1 := ⟨mem1 5 rfl, mem1 2 rfl, by decide⟩
theorem cw2 : code_w B2 := ⟨mem1 37 rfl, mem1 2 rfl, by decide⟩
theorem cw3 : code_w B3 := ⟨mem1 41 rfl, mem1 2 rfl, by decide⟩
theorem cw4 : code_w B4 := ⟨mem1 45 rfl, mem1 2 rfl, by decide⟩
theorem cw5 : code_w B5 := ⟨mem1 49 rfl, mem1 2 rfl, by decide⟩
theorem cw6 : code_w B6 := ⟨mem1 53 rfl, mem1 2 rfl, by decide⟩
theorem cw7 : code_w B7 := ⟨mem1 57 rfl, mem1 2 rfl, by decide⟩
theorem cw8 : code_w B8 := ⟨mem1 62 rfl, mem1 2 rfl, by decide⟩
theorem cw9 : code_w B9 := ⟨mem1 66 rfl, mem1 2 rfl, by decide⟩
theorem cw10 : code_w B10 := ⟨mem1 70 rfl, mem1 2 rfl, by decide⟩
theorem cw11 : code_w B11 := ⟨mem1 74 rfl, mem1 2 rfl, by decide⟩
theorem cw12 : code_w B12 := ⟨mem1 78 rfl, mem1 2 rfl, by decide⟩
theorem cw13 : code_w B13 := ⟨mem1 83 rfl, mem1 2 rfl, by decide⟩
theorem cw14 : code_w B14 := ⟨mem1 88 rfl, mem1 2 rfl, by decide⟩
theorem cw15 : code_w B15 := ⟨mem1 93 rfl, mem1 2 rfl, by decide⟩
theorem cw16 : code_w B16 := ⟨mem1 98 rfl, mem1 2 rfl, by decide⟩
theorem cw17 : code_w B17 := ⟨mem1 103 rfl, mem1 2 rfl, by decide⟩
theorem cw18 : code_w B18 := ⟨mem1 108 rfl, mem1 2 rfl, by decide⟩
theorem rk0_2_0 : room_ok B0 B2 0 := by decide
theorem rk0_8_0 : room_ok B0 B8 0 := by decide
theorem rk0_13_0 : room_ok B0 B13 0 := by decide
theorem rk0_14_0 : room_ok B0 B14 0 := by decide
theorem rk0_15_0 : room_ok B0 B15 0 := by decide
theorem rk0_16_0 : room_ok B0 B16 0 := by decide
theorem rk0_17_0 : room_ok B0 B17 0 := by decide
theorem rk0_18_0 : room_ok B0 B18 0 := by decide
theorem rk2_3_0 : room_ok B2 B3 0 := by decide
theorem rk2_4_0 : room_ok B2 B4 0 := by decide
theorem rk2_5_0 : room_ok B2 B5 0 := by decide
theorem rk5_6_0 : room_ok B5 B6 0 := by decide
theorem rk5_7_0 : room_ok B5 B7 0 := by decide
theorem rk8_3_0 : room_ok B8 B3 0 := by decide
theorem rk8_6_0 : room_ok B8 B6 0 := by decide
theorem rk8_9_0 : room_ok B8 B9 0 := by decide
theorem rk8_10_0 : room_ok B8 B10 0 := by decide
theorem rk8_11_0 : room_ok B8 B11 0 := by decide
theorem rk11_5_0 : room_ok B11 B5 0 := by decide
theorem rk11_12_0 : room_ok B11 B12 0 := by decide
theorem rk12_4_0 : room_ok B12 B4 0 := by decide
theorem rk12_6_0 : room_ok B12 B6 0 := by decide
theorem rk12_9_0 : room_ok B12 B9 0 := by decide
theorem rk13_3_0 : room_ok B13 B3 0 := by decide
theorem rk14_3_0 : room_ok B14 B3 0 := by decide
theorem rk14_4_0 : room_ok B14 B4 0 := by decide
theorem rk14_9_0 : room_ok B14 B9 0 := by decide
theorem rk15_3_0 : room_ok B15 B3 0 := by decide
theorem rk15_6_0 : room_ok B15 B6 0 := by decide
theorem rk15_9_0 : room_ok B15 B9 0 := by decide
theorem rk16_3_0 : room_ok B16 B3 0 := by decide
theorem rk17_3_0 : room_ok B17 B3 0 := by decide
theorem rk17_7_0 : room_ok B17 B7 0 := by decide
theorem rk18_3_0 : room_ok B18 B3 0 := by decide
theorem rk18_9_0 : room_ok B18 B9 0 := by decide
theorem rk18_10_0 : room_ok B18 B10 0 := by decide
def X_init_b116 (ob : Rec) (i4 : Int32) : Option (Rec) :=
  if (8 : Int32) < i4 then
    some (sI ob 1 (8 : Int32))
  else
    some (sI ob 1 i4)
set_option maxRecDepth 65536 in
set_option maxHeartbeats 4000000 in
theorem X_init_b116_p {C : Ctx} {a : Nat} {H : List (Nat × Nat × Rec)} {res : Rec} (ob : Rec) (i4 : Int32) (hf : X_init_b116 ob i4 = some res) : Runs C B1 9 2648 116 [vr a, vn, vn, vn, vi i4] [] (a + 1 + 9, (a, 9, ob) :: H) (Ans none (a + 1 + 9, (a, 9, res) :: H)) := by
  delta X_init_b116 at hf
  refine Runs.iload d1_116 rfl <| Runs.bipush d1_118 cb_8 <| ?_
  refine ite_el hf (fun hc3 hf => ?_) (fun hc3 hf => ?_)
  · refine Runs.icN d1_120 (tlt hc3).2.2.2 <| ?_
    obtain rfl := Option.some.inj hf
    exact Runs.bipush d1_123 cb_8 <| Runs.istore (P' := [vr a, vn, vn, vn, vi (8 : Int32)]) d1_125 (by decide) rfl <| Runs.aloadN d1_127 rfl <| Runs.iload d1_128 rfl <| Runs.putI d1_130 w31 fS_1 (Or.inl w32) <| Runs.retV d1_133 rfl ⟨by decide, by decide⟩ ⟨rfl, rfl⟩
  · refine Runs.icY (pc' := 127) d1_120 (flt hc3).2.2.2 (by decide) <| ?_
    obtain rfl := Option.some.inj hf
    exact Runs.aloadN d1_127 rfl <| Runs.iload d1_128 rfl <| Runs.putI d1_130 w31 fS_1 (Or.inl w32) <| Runs.retV d1_133 rfl ⟨by decide, by decide⟩ ⟨rfl, rfl⟩
def X_init_b99 (ob : Rec) (i2 : Int32) (i3 : Int32) : Option (Rec) :=
  if i2 < (1 : Int32) then
    X_init_b116 (sI ob 0 i3) (1 : Int32)
  else
    X_init_b116 (sI ob 0 i3) i2
set_option maxRecDepth 65536 in
set_option maxHeartbeats 4000000 in
theorem X_init_b99_p {C : Ctx} {a : Nat} {H : List (Nat × Nat × Rec)} {res : Rec} (ob : Rec) (i2 : Int32) (i3 : Int32) (hf : X_init_b99 ob i2 i3 = some res) : Runs C B1 9 2648 99 [vr a, vn, vi i2, vi i3, vn] [] (a + 1 + 9, (a, 9, ob) :: H) (Ans none (a + 1 + 9, (a, 9, res) :: H)) := by
  delta X_init_b99 at hf
  refine Runs.aloadN d1_99 rfl <| Runs.iloadN d1_100 rfl <| Runs.putI d1_101 w29 fS_0 (Or.inl w30) <| Runs.iloadN d1_104 rfl <| Runs.istore (P' := [vr a, vn, vi i2, vi i3, vi i2]) d1_105 (by decide) rfl <| Runs.iload d1_107 rfl <| Runs.iconst d1_109 ci_1 <| ?_
  refine ite_el hf (fun hc2 hf => ?_) (fun hc2 hf => ?_)
  · refine Runs.icN d1_110 (tlt hc2).2.1 <| ?_
    exact Runs.iconst d1_113 ci_1 <| Runs.istore (P' := [vr a, vn, vi i2, vi i3, vi (1 : Int32)]) d1_114 (by decide) rfl <| Runs.forget [true, false, false, false, true] rfl <| X_init_b116_p (sI ob 0 i3) (1 : Int32) hf
  · exact Runs.icY (pc' := 116) d1_110 (flt hc2).2.1 (by decide) <| Runs.forget [true, false, false, false, true] rfl <| X_init_b116_p (sI ob 0 i3) i2 hf
def X_init_b90 (ob : Rec) (i2 : Int32) (i3 : Int32) : Option (Rec) :=
  if (8 : Int32) < i3 then
    X_init_b99 ob i2 (8 : Int32)
  else
    X_init_b99 ob i2 i3
set_option maxRecDepth 65536 in
set_option maxHeartbeats 4000000 in
theorem X_init_b90_p {C : Ctx} {a : Nat} {H : List (Nat × Nat × Rec)} {res : Rec} (ob : Rec) (i2 : Int32) (i3 : Int32) (hf : X_init_b90 ob i2 i3 = some res) : Runs C B1 9 2648 90 [vr a, vn, vi i2, vi i3, vn] [] (a + 1 + 9, (a, 9, ob) :: H) (Ans none (a + 1 + 9, (a, 9, res) :: H)) := by
  delta X_init_b90 at hf
  refine Runs.iloadN d1_90 rfl <| Runs.bipush d1_91 cb_8 <| ?_
  refine ite_el hf (fun hc1 hf => ?_) (fun hc1 hf => ?_)
  · refine Runs.icN d1_93 (tlt hc1).2.2.2 <| ?_
    exact Runs.bipush d1_96 cb_8 <| Runs.istoreN (P' := [vr a, vn, vi i2, vi (8 : Int32), vn]) d1_98 (by decide) rfl <| X_init_b99_p ob i2 (8 : Int32) hf
  · exact Runs.icY (pc' := 99) d1_93 (flt hc1).2.2.2 (by decide) <| X_init_b99_p ob i2 i3 hf
def X_init (i1 : Int32) (i2 : Int32) : Option (Rec) :=
  if i1 < (2 : Int32) then
    X_init_b90 zrec i2 (2 : Int32)
  else
    X_init_b90 zrec i2 i1
set_option maxRecDepth 65536 in
set_option maxHeartbeats 4000000 in
theorem X_init_p {C : Ctx} {a : Nat} {H : List (Nat × Nat × Rec)} {res : Rec} (i1 : Int32) (i2 : Int32) (hf : X_init i1 i2 = some res) : Runs C B1 0 0 0 [vr a, vi i1, vi i2, vn, vn] [] (a + 1, (a, 0, zrec) :: H) (Ans none (a + 1 + 9, (a, 9, res) :: H)) := by
  delta X_init at hf
  refine Runs.aloadN d1_0 rfl <| Runs.initO (W := 0) d1_1 w6 w7 w8 rfl (by decide) <| Runs.aloadN d1_4 rfl <| Runs.bipush d1_5 cb_8 <| Runs.newArr (j' := 1) (top' := a + 1 + 1) (k' := 1) (n' := 8) d1_7 d1_9 fA_0 w10 rfl w9 (Or.inl w11) rfl (by decide) ⟨by decide, by decide⟩ ⟨fun _ => rfl, fun _ => rfl⟩ rfl rfl rfl (by decide) <| Runs.aloadN d1_12 rfl <| Runs.bipush d1_13 cb_8 <| Runs.newArr (j' := 2) (top' := a + 1 + 2) (k' := 2) (n' := 16) d1_15 d1_17 fA_1 w13 rfl w12 (Or.inl w14) rfl (by decide) ⟨by decide, by decide⟩ ⟨fun _ => rfl, fun _ => rfl⟩ rfl rfl rfl (by decide) <| Runs.aloadN d1_20 rfl <| Runs.bipush d1_21 cb_64 <| Runs.newArr (j' := 3) (top' := a + 1 + 3) (k' := 3) (n' := 80) d1_23 d1_25 fA_2 w15 rfl w9 (Or.inl w16) rfl (by decide) ⟨by decide, by decide⟩ ⟨fun _ => rfl, fun _ => rfl⟩ rfl rfl rfl (by decide) <| Runs.aloadN d1_28 rfl <| ?_
  refine Runs.sipush d1_29 cs_512 <| Runs.newArr (j' := 4) (top' := a + 1 + 4) (k' := 4) (n' := 592) d1_32 d1_34 fA_3 w17 rfl w9 (Or.inl w18) rfl (by decide) ⟨by decide, by decide⟩ ⟨fun _ => rfl, fun _ => rfl⟩ rfl rfl rfl (by decide) <| Runs.aloadN d1_37 rfl <| Runs.sipush d1_38 cs_512 <| Runs.newArr (j' := 5) (top' := a + 1 + 5) (k' := 5) (n' := 1104) d1_41 d1_43 fA_4 w19 rfl w9 (Or.inl w20) rfl (by decide) ⟨by decide, by decide⟩ ⟨fun _ => rfl, fun _ => rfl⟩ rfl rfl rfl (by decide) <| Runs.aloadN d1_46 rfl <| Runs.sipush d1_47 cs_512 <| Runs.newArr (j' := 6) (top' := a + 1 + 6) (k' := 6) (n' := 1616) d1_50 d1_52 fA_5 w21 rfl w9 (Or.inl w22) rfl (by decide) ⟨by decide, by decide⟩ ⟨fun _ => rfl, fun _ => rfl⟩ rfl rfl rfl (by decide) <| Runs.aloadN d1_55 rfl <| Runs.sipush d1_56 cs_512 <| Runs.newArr (j' := 7) (top' := a + 1 + 7) (k' := 7) (n' := 2128) d1_59 d1_61 fA_6 w23 rfl w9 (Or.inl w24) rfl (by decide) ⟨by decide, by decide⟩ ⟨fun _ => rfl, fun _ => rfl⟩ rfl rfl rfl (by decide) <| Runs.aloadN d1_64 rfl <| ?_
  refine Runs.sipush d1_65 cs_512 <| Runs.newArr (j' := 8) (top' := a + 1 + 8) (k' := 8) (n' := 2640) d1_68 d1_70 fA_7 w25 rfl w9 (Or.inl w26) rfl (by decide) ⟨by decide, by decide⟩ ⟨fun _ => rfl, fun _ => rfl⟩ rfl rfl rfl (by decide) <| Runs.aloadN d1_73 rfl <| Runs.bipush d1_74 cb_8 <| Runs.newArr (j' := 9) (top' := a + 1 + 9) (k' := 9) (n' := 2648) d1_76 d1_78 fA_8 w27 rfl w9 (Or.inl w28) rfl (by decide) ⟨by decide, by decide⟩ ⟨fun _ => rfl, fun _ => rfl⟩ rfl rfl rfl (by decide) <| Runs.iloadN d1_81 rfl <| Runs.istoreN (P' := [vr a, vi i1, vi i2, vi i1, vn]) d1_82 (by decide) rfl <| Runs.iloadN d1_83 rfl <| Runs.iconst d1_84 ci_2 <| ?_
  refine ite_el hf (fun hc4 hf => ?_) (fun hc4 hf => ?_)
  · refine Runs.icN d1_85 (tlt hc4).2.1 <| ?_
    exact Runs.iconst d1_88 ci_2 <| Runs.istoreN (P' := [vr a, vi i1, vi i2, vi (2 : Int32), vn]) d1_89 (by decide) rfl <| Runs.forget [true, false, true, true, false] rfl <| X_init_b90_p zrec i2 (2 : Int32) hf
  · exact Runs.icY (pc' := 90) d1_85 (flt hc4).2.1 (by decide) <| Runs.forget [true, false, true, true, false] rfl <| X_init_b90_p zrec i2 i1 hf
theorem X_init_pay {C : Ctx} {a : Nat} {H : List (Nat × Nat × Rec)} {res : Rec} {i1 : Int32} {i2 : Int32} (hf : X_init i1 i2 = some res) : Pays C B1 [.ref a, .int i1, .int i2] (a + 1, (a, 0, zrec) :: H) (Ans none (a + 1 + 9, (a, 9, res) :: H)) :=
  Pays.of pnK (Nat.le_of_ble_eq_true rfl) (P := [vr a, vi i1, vi i2, vn, vn]) 2 rfl (X_init_p i1 i2 hf)
def X_validProc (ob : Rec) (i1 : Int32) : Option (Int32) :=
  if i1 < (0 : Int32) then
    some (0 : Int32)
  else
    if i1 < (gI ob 0) then
      some (1 : Int32)
    else
      some (0 : Int32)
set_option maxRecDepth 65536 in
set_option maxHeartbeats 4000000 in
theorem X_validProc_p {C : Ctx} {top : Nat} {a : Nat} {H : List (Nat × Nat × Rec)} {ob : Rec} {res : Int32} (i1 : Int32) (hf : X_validProc ob i1 = some res) : Runs C B3 0 0 0 [vr a, vi i1] [] (top, (a, 9, ob) :: H) (Ans (some (.int res)) (top, (a, 9, ob) :: H)) := by
  delta X_validProc at hf
  refine Runs.iloadN d3_0 rfl <| ?_
  refine ite_el hf (fun hc1 hf => ?_) (fun hc1 hf => ?_)
  · refine Runs.ifY (pc' := 16) d3_1 (tlt hc1).1 (by decide) <| ?_
    obtain rfl := Option.some.inj hf
    exact Runs.iconst d3_16 ci_0 <| Runs.retZ (y := (0 : Int32)) d3_17 rfl ⟨by decide, by decide⟩ rfl ⟨rfl, rfl⟩
  · refine Runs.ifN d3_1 (flt hc1).1 <| ?_
    refine Runs.iloadN d3_4 rfl <| Runs.aloadN d3_5 rfl <| Runs.getI d3_6 w29 fS_0 <| ?_
    refine ite_el hf (fun hc2 hf => ?_) (fun hc2 hf => ?_)
    · refine Runs.icN d3_9 (tlt hc2).2.1 <| ?_
      obtain rfl := Option.some.inj hf
      exact Runs.iconst d3_12 ci_1 <| Runs.goto (pc' := 17) d3_13 (by decide) <| Runs.retZ (y := (1 : Int32)) d3_17 rfl ⟨by decide, by decide⟩ rfl ⟨rfl, rfl⟩
    · refine Runs.icY (pc' := 16) d3_9 (flt hc2).2.1 (by decide) <| ?_
      obtain rfl := Option.some.inj hf
      exact Runs.iconst d3_16 ci_0 <| Runs.retZ (y := (0 : Int32)) d3_17 rfl ⟨by decide, by decide⟩ rfl ⟨rfl, rfl⟩
theorem X_validProc_pay {C : Ctx} {top : Nat} {a : Nat} {H : List (Nat × Nat × Rec)} {ob : Rec} {res : Int32} {i1 : Int32} (hf : X_validProc ob i1 = some res) : Pays C B3 [.ref a, .int i1] (top, (a, 9, ob) :: H) (Ans (some (.int res)) (top, (a, 9, ob) :: H)) :=
  Pays.of pnK (Nat.le_of_ble_eq_true rfl) (P := [vr a, vi i1]) 0 rfl (X_validProc_p i1 hf)
def X_msgIndex (ob : Rec) (i1 : Int32) (i2 : Int32) : Option (Int32) :=
  some (((i1 * (8 : Int32)) + i2) - (1 : Int32))
set_option maxRecDepth 65536 in
set_option maxHeartbeats 4000000 in
theorem X_msgIndex_p {C : Ctx} {top : Nat} {a : Nat} {H : List (Nat × Nat × Rec)} {ob : Rec} {res : Int32} (i1 : Int32) (i2 : Int32) (hf : X_msgIndex ob i1 i2 = some res) : Runs C B4 0 0 0 [vr a, vi i1, vi i2] [] (top, (a, 9, ob) :: H) (Ans (some (.int res)) (top, (a, 9, ob) :: H)) := by
  delta X_msgIndex at hf
  obtain rfl := Option.some.inj hf
  exact Runs.iloadN d4_0 rfl <| Runs.bipush d4_1 cb_8 <| Runs.imul d4_3 <| Runs.iloadN d4_4 rfl <| Runs.iadd d4_5 <| Runs.iconst d4_6 ci_1 <| Runs.isub d4_7 <| Runs.retI d4_8 rfl ⟨by decide, by decide⟩ ⟨rfl, rfl⟩
theorem X_msgIndex_pay {C : Ctx} {top : Nat} {a : Nat} {H : List (Nat × Nat × Rec)} {ob : Rec} {res : Int32} {i1 : Int32} {i2 : Int32} (hf : X_msgIndex ob i1 i2 = some res) : Pays C B4 [.ref a, .int i1, .int i2] (top, (a, 9, ob) :: H) (Ans (some (.int res)) (top, (a, 9, ob) :: H)) :=
  Pays.of pnK (Nat.le_of_ble_eq_true rfl) (P := [vr a, vi i1, vi i2]) 0 rfl (X_msgIndex_p i1 i2 hf)
def X_stateIndex (ob : Rec) (i1 : Int32) (i2 : Int32) (i3 : Int32) : Option (Int32) :=
  some ((((i1 * (64 : Int32)) + (i2 * (8 : Int32))) + i3) - (1 : Int32))
set_option maxRecDepth 65536 in
set_option maxHeartbeats 4000000 in
theorem X_stateIndex_p {C : Ctx} {top : Nat} {a : Nat} {H : List (Nat × Nat × Rec)} {ob : Rec} {res : Int32} (i1 : Int32) (i2 : Int32) (i3 : Int32) (hf : X_stateIndex ob i1 i2 i3 = some res) : Runs C B6 0 0 0 [vr a, vi i1, vi i2, vi i3] [] (top, (a, 9, ob) :: H) (Ans (some (.int res)) (top, (a, 9, ob) :: H)) := by
  delta X_stateIndex at hf
  obtain rfl := Option.some.inj hf
  exact Runs.iloadN d6_0 rfl <| Runs.bipush d6_1 cb_64 <| Runs.imul d6_3 <| Runs.iloadN d6_4 rfl <| Runs.bipush d6_5 cb_8 <| Runs.imul d6_7 <| Runs.iadd d6_8 <| Runs.iloadN d6_9 rfl <| Runs.iadd d6_10 <| Runs.iconst d6_11 ci_1 <| Runs.isub d6_12 <| Runs.retI d6_13 rfl ⟨by decide, by decide⟩ ⟨rfl, rfl⟩
theorem X_stateIndex_pay {C : Ctx} {top : Nat} {a : Nat} {H : List (Nat × Nat × Rec)} {ob : Rec} {res : Int32} {i1 : Int32} {i2 : Int32} {i3 : Int32} (hf : X_stateIndex ob i1 i2 i3 = some res) : Pays C B6 [.ref a, .int i1, .int i2, .int i3] (top, (a, 9, ob) :: H) (Ans (some (.int res)) (top, (a, 9, ob) :: H)) :=
  Pays.of pnK (Nat.le_of_ble_eq_true rfl) (P := [vr a, vi i1, vi i2, vi i3]) 0 rfl (X_stateIndex_p i1 i2 i3 hf)
def X_knownIndex (ob : Rec) (i1 : Int32) (i2 : Int32) (i3 : Int32) : Option (Int32) :=
  some (((i1 * (64 : Int32)) + (i2 * (8 : Int32))) + i3)
set_option maxRecDepth 65536 in
set_option maxHeartbeats 4000000 in
theorem X_knownIndex_p {C : Ctx} {top : Nat} {a : Nat} {H : List (Nat × Nat × Rec)} {ob : Rec} {res : Int32} (i1 : Int32) (i2 : Int32) (i3 : Int32) (hf : X_knownIndex ob i1 i2 i3 = some res) : Runs C B7 0 0 0 [vr a, vi i1, vi i2, vi i3] [] (top, (a, 9, ob) :: H) (Ans (some (.int res)) (top, (a, 9, ob) :: H)) := by
  delta X_knownIndex at hf
  obtain rfl := Option.some.inj hf
  exact Runs.iloadN d7_0 rfl <| Runs.bipush d7_1 cb_64 <| Runs.imul d7_3 <| Runs.iloadN d7_4 rfl <| Runs.bipush d7_5 cb_8 <| Runs.imul d7_7 <| Runs.iadd d7_8 <| Runs.iloadN d7_9 rfl <| Runs.iadd d7_10 <| Runs.retI d7_11 rfl ⟨by decide, by decide⟩ ⟨rfl, rfl⟩
theorem X_knownIndex_pay {C : Ctx} {top : Nat} {a : Nat} {H : List (Nat × Nat × Rec)} {ob : Rec} {res : Int32} {i1 : Int32} {i2 : Int32} {i3 : Int32} (hf : X_knownIndex ob i1 i2 i3 = some res) : Pays C B7 [.ref a, .int i1, .int i2, .int i3] (top, (a, 9, ob) :: H) (Ans (some (.int res)) (top, (a, 9, ob) :: H)) :=
  Pays.of pnK (Nat.le_of_ble_eq_true rfl) (P := [vr a, vi i1, vi i2, vi i3]) 0 rfl (X_knownIndex_p i1 i2 i3 hf)
def X_deliverAt_b89 (ob : Rec) (i1 : Int32) (i2 : Int32) : Option (Rec) :=
  (X_knownIndex ob i1 i1 i2).bind fun r1 =>
  chk (64 : Int32) ((i1 * (8 : Int32)) + i2) <|
  chk (512 : Int32) r1 <|
  some (sA ob 6 r1 (gA ob 2 ((i1 * (8 : Int32)) + i2)))
set_option maxRecDepth 65536 in
set_option maxHeartbeats 4000000 in
theorem X_deliverAt_b89_p {C : Ctx} {top : Nat} {a : Nat} {H : List (Nat × Nat × Rec)} {res : Rec} (ob : Rec) (i1 : Int32) (i2 : Int32) (hf : X_deliverAt_b89 ob i1 i2 = some res) : Runs C B5 0 0 89 [vr a, vi i1, vi i2, vn, vn, vn, vn] [] (top, (a, 9, ob) :: H) (Ans none (top, (a, 9, res) :: H)) := by
  delta X_deliverAt_b89 at hf
  refine Runs.aloadN d5_89 rfl <| Runs.iloadN d5_90 rfl <| Runs.iloadN d5_91 rfl <| Runs.iloadN d5_92 rfl <| ?_
  refine bind_el hf fun r1 hg2 hf => ?_
  refine Runs.callP (N := B7) (W := 0) (as := [.int i1, .int i1, .int i2]) (S' := []) d5_93 w54 w55 w56 rfl cw7 ar7 rk5_7_0 (by decide) rfl rfl (X_knownIndex_pay hg2) <| ans1 <| Runs.istore (P' := [vr a, vi i1, vi i2, vn, vn, vn, vi r1]) d5_96 (by decide) rfl <| Runs.aloadN d5_98 rfl <| Runs.getA d5_99 fA_6 w23 (by decide) <| Runs.iload d5_102 rfl <| Runs.aloadN d5_104 rfl <| Runs.getA d5_105 fA_2 w15 (by decide) <| Runs.iloadN d5_108 rfl <| Runs.bipush d5_109 cb_8 <| Runs.imul d5_111 <| Runs.iloadN d5_112 rfl <| Runs.iadd d5_113 <| ?_
  refine chk_el hf fun hi3 hf => ?_
  refine Runs.ialoadA d5_114 fA_2 (by decide) hi3 <| ?_
  refine chk_el hf fun hi4 hf => ?_
  obtain rfl := Option.some.inj hf
  exact Runs.iastoreA d5_115 fA_6 (by decide) hi4 <| Runs.retV d5_116 rfl ⟨by decide, by decide⟩ ⟨rfl, rfl⟩
def X_deliverAt (ob : Rec) (i1 : Int32) (i2 : Int32) (i3 : Int32) : Option (Rec) :=
  (X_stateIndex ob i1 i2 i3).bind fun r5 =>
  chk (512 : Int32) r5 <|
  chk (64 : Int32) ((i1 * (8 : Int32)) + i2) <|
  chk (64 : Int32) ((i1 * (8 : Int32)) + i2) <|
  chk (8 : Int32) i1 <|
  if (gA ob 8 i1) < (0 : Int32) then
    X_deliverAt_b89 (sA (sA ob 3 r5 (2 : Int32)) 2 ((i1 * (8 : Int32)) + i2) ((gA ob 2 ((i1 * (8 : Int32)) + i2)) + (1 : Int32))) i1 i2
  else
    if (gA ob 8 i1) < (64 : Int32) then
      chk (512 : Int32) ((i1 * (64 : Int32)) + (gA ob 8 i1)) <|
      chk (8 : Int32) i1 <|
      X_deliverAt_b89 (sA (sA (sA (sA ob 3 r5 (2 : Int32)) 2 ((i1 * (8 : Int32)) + i2) ((gA ob 2 ((i1 * (8 : Int32)) + i2)) + (1 : Int32))) 7 ((i1 * (64 : Int32)) + (gA ob 8 i1)) ((i2 * (16 : Int32)) + i3)) 8 i1 ((gA ob 8 i1) + (1 : Int32))) i1 i2
    else
      X_deliverAt_b89 (sA (sA ob 3 r5 (2 : Int32)) 2 ((i1 * (8 : Int32)) + i2) ((gA ob 2 ((i1 * (8 : Int32)) + i2)) + (1 : Int32))) i1 i2
set_option maxRecDepth 65536 in
set_option maxHeartbeats 4000000 in
theorem X_deliverAt_p {C : Ctx} {top : Nat} {a : Nat} {H : List (Nat × Nat × Rec)} {res : Rec} (ob : Rec) (i1 : Int32) (i2 : Int32) (i3 : Int32) (hf : X_deliverAt ob i1 i2 i3 = some res) : Runs C B5 0 0 0 [vr a, vi i1, vi i2, vi i3, vn, vn, vn] [] (top, (a, 9, ob) :: H) (Ans none (top, (a, 9, res) :: H)) := by
  delta X_deliverAt at hf
  refine Runs.aloadN d5_0 rfl <| Runs.iloadN d5_1 rfl <| Runs.iloadN d5_2 rfl <| Runs.iloadN d5_3 rfl <| ?_
  refine bind_el hf fun r5 hg6 hf => ?_
  refine Runs.callP (N := B6) (W := 0) (as := [.int i1, .int i2, .int i3]) (S' := []) d5_4 w50 w51 w52 rfl cw6 ar6 rk5_6_0 (by decide) rfl rfl (X_stateIndex_pay hg6) <| ans1 <| Runs.istore (P' := [vr a, vi i1, vi i2, vi i3, vi r5, vn, vn]) d5_7 (by decide) rfl <| Runs.aloadN d5_9 rfl <| Runs.getA d5_10 fA_3 w17 (by decide) <| Runs.iload d5_13 rfl <| Runs.iconst d5_15 ci_2 <| ?_
  refine chk_el hf fun hi7 hf => ?_
  refine Runs.iastoreA d5_16 fA_3 (by decide) hi7 <| Runs.aloadN d5_17 rfl <| Runs.getA d5_18 fA_2 w15 (by decide) <| Runs.iloadN d5_21 rfl <| Runs.bipush d5_22 cb_8 <| Runs.imul d5_24 <| Runs.iloadN d5_25 rfl <| Runs.iadd d5_26 <| Runs.aloadN d5_27 rfl <| Runs.getA d5_28 fA_2 w15 (by decide) <| Runs.iloadN d5_31 rfl <| Runs.bipush d5_32 cb_8 <| ?_
  refine Runs.imul d5_34 <| Runs.iloadN d5_35 rfl <| Runs.iadd d5_36 <| ?_
  refine chk_el hf fun hi8 hf => ?_
  refine Runs.ialoadA d5_37 fA_2 (by decide) hi8 <| Runs.iconst d5_38 ci_1 <| Runs.iadd d5_39 <| ?_
  refine chk_el hf fun hi9 hf => ?_
  refine Runs.iastoreA d5_40 fA_2 (by decide) hi9 <| Runs.aloadN d5_41 rfl <| Runs.getA d5_42 fA_8 w27 (by decide) <| Runs.iloadN d5_45 rfl <| ?_
  refine chk_el hf fun hi10 hf => ?_
  refine Runs.ialoadA d5_46 fA_8 (by decide) hi10 <| Runs.istore (P' := [vr a, vi i1, vi i2, vi i3, vi r5, vi (gA ob 8 i1), vn]) d5_47 (by decide) rfl <| Runs.iload d5_49 rfl <| ?_
  refine ite_el hf (fun hc11 hf => ?_) (fun hc11 hf => ?_)
  · exact Runs.ifY (pc' := 89) d5_51 (tlt hc11).1 (by decide) <| Runs.forget [true, true, true, false, false, false, false] rfl <| X_deliverAt_b89_p (sA (sA ob 3 r5 (2 : Int32)) 2 ((i1 * (8 : Int32)) + i2) ((gA ob 2 ((i1 * (8 : Int32)) + i2)) + (1 : Int32))) i1 i2 hf
  · refine Runs.ifN d5_51 (flt hc11).1 <| ?_
    refine Runs.iload d5_54 rfl <| Runs.bipush d5_56 cb_64 <| ?_
    refine ite_el hf (fun hc12 hf => ?_) (fun hc12 hf => ?_)
    · refine Runs.icN d5_58 (tlt hc12).2.1 <| ?_
      refine Runs.aloadN d5_61 rfl <| Runs.getA d5_62 fA_7 w25 (by decide) <| Runs.iloadN d5_65 rfl <| Runs.bipush d5_66 cb_64 <| Runs.imul d5_68 <| Runs.iload d5_69 rfl <| Runs.iadd d5_71 <| Runs.iloadN d5_72 rfl <| Runs.bipush d5_73 cb_16 <| Runs.imul d5_75 <| Runs.iloadN d5_76 rfl <| Runs.iadd d5_77 <| ?_
      refine chk_el hf fun hi13 hf => ?_
      refine Runs.iastoreA d5_78 fA_7 (by decide) hi13 <| Runs.aloadN d5_79 rfl <| Runs.getA d5_80 fA_8 w27 (by decide) <| Runs.iloadN d5_83 rfl <| Runs.iload d5_84 rfl <| Runs.iconst d5_86 ci_1 <| Runs.iadd d5_87 <| ?_
      refine chk_el hf fun hi14 hf => ?_
      exact Runs.iastoreA d5_88 fA_8 (by decide) hi14 <| Runs.forget [true, true, true, false, false, false, false] rfl <| X_deliverAt_b89_p (sA (sA (sA (sA ob 3 r5 (2 : Int32)) 2 ((i1 * (8 : Int32)) + i2) ((gA ob 2 ((i1 * (8 : Int32)) + i2)) + (1 : Int32))) 7 ((i1 * (64 : Int32)) + (gA ob 8 i1)) ((i2 * (16 : Int32)) + i3)) 8 i1 ((gA ob 8 i1) + (1 : Int32))) i1 i2 hf
    · exact Runs.icY (pc' := 89) d5_58 (flt hc12).2.1 (by decide) <| Runs.forget [true, true, true, false, false, false, false] rfl <| X_deliverAt_b89_p (sA (sA ob 3 r5 (2 : Int32)) 2 ((i1 * (8 : Int32)) + i2) ((gA ob 2 ((i1 * (8 : Int32)) + i2)) + (1 : Int32))) i1 i2 hf
theorem X_deliverAt_pay {C : Ctx} {top : Nat} {a : Nat} {H : List (Nat × Nat × Rec)} {res : Rec} {ob : Rec} {i1 : Int32} {i2 : Int32} {i3 : Int32} (hf : X_deliverAt ob i1 i2 i3 = some res) : Pays C B5 [.ref a, .int i1, .int i2, .int i3] (top, (a, 9, ob) :: H) (Ans none (top, (a, 9, res) :: H)) :=
  Pays.of pnK (Nat.le_of_ble_eq_true rfl) (P := [vr a, vi i1, vi i2, vi i3, vn, vn, vn]) 3 rfl (X_deliverAt_p ob i1 i2 i3 hf)
def X_broadcast_w125 (NF : Nat) (k125 : Rec → Int32 → Int32 → Int32 → Int32 → Option (Int32 × Rec)) (ob : Rec) (i1 : Int32) (i2 : Int32) (i3 : Int32) (i4 : Int32) : Option (Int32 × Rec) :=
  if i4 < (gI ob 0) then
    if i4 = i1 then
      chk (512 : Int32) ((i3 * (8 : Int32)) + i4) <|
      k125 (sA ob 5 ((i3 * (8 : Int32)) + i4) (0 : Int32)) i1 i2 i3 (i4 + (1 : Int32))
    else
      chk (512 : Int32) ((i3 * (8 : Int32)) + i4) <|
      k125 (sA ob 5 ((i3 * (8 : Int32)) + i4) (1 : Int32)) i1 i2 i3 (i4 + (1 : Int32))
  else
    some (i2, ob)
def X_broadcast_l125 (NF : Nat) : Nat → Rec → Int32 → Int32 → Int32 → Int32 → Option (Int32 × Rec)
  | 0, _, _, _, _, _ => none
  | n + 1, ob, i1, i2, i3, i4 => X_broadcast_w125 NF (X_broadcast_l125 NF n) ob i1 i2 i3 i4
set_option maxRecDepth 65536 in
set_option maxHeartbeats 4000000 in
theorem X_broadcast_w125_p {C : Ctx} {top : Nat} {a : Nat} {H : List (Nat × Nat × Rec)} {res : Int32 × Rec} {NF : Nat} (k125 : Rec → Int32 → Int32 → Int32 → Int32 → Option (Int32 × Rec)) (hk125 : ∀ (ob : Rec) (i1 : Int32) (i2 : Int32) (i3 : Int32) (i4 : Int32), k125 ob i1 i2 i3 i4 = some res → Runs C B2 0 0 125 [vr a, vi i1, vi i2, vi i3, vi i4] [] (top, (a, 9, ob) :: H) (Ans (some (.int res.1)) (top, (a, 9, res.2) :: H))) (ob : Rec) (i1 : Int32) (i2 : Int32) (i3 : Int32) (i4 : Int32) (hf : X_broadcast_w125 NF k125 ob i1 i2 i3 i4 = some res) : Runs C B2 0 0 125 [vr a, vi i1, vi i2, vi i3, vi i4] [] (top, (a, 9, ob) :: H) (Ans (some (.int res.1)) (top, (a, 9, res.2) :: H)) := by
  delta X_broadcast_w125 at hf
  refine Runs.iload d2_125 rfl <| Runs.aloadN d2_127 rfl <| Runs.getI d2_128 w29 fS_0 <| ?_
  refine ite_el hf (fun hc7 hf => ?_) (fun hc7 hf => ?_)
  · refine Runs.icN d2_131 (tlt hc7).2.1 <| ?_
    refine Runs.aloadN d2_134 rfl <| Runs.getA d2_135 fA_5 w21 (by decide) <| Runs.iloadN d2_138 rfl <| Runs.bipush d2_139 cb_8 <| Runs.imul d2_141 <| Runs.iload d2_142 rfl <| Runs.iadd d2_144 <| Runs.iload d2_145 rfl <| Runs.iloadN d2_147 rfl <| ?_
    refine ite_el hf (fun hc8 hf => ?_) (fun hc8 hf => ?_)
    · refine Runs.icN d2_148 (teq hc8).2 <| ?_
      refine Runs.iconst d2_151 ci_0 <| Runs.goto (pc' := 156) d2_152 (by decide) <| ?_
      refine chk_el hf fun hi9 hf => ?_
      exact Runs.iastoreA d2_156 fA_5 (by decide) hi9 <| Runs.iinc (P' := [vr a, vi i1, vi i2, vi i3, vi (i4 + (1 : Int32))]) d2_157 ci_1 rfl (by decide) rfl <| Runs.goto (pc' := 125) d2_160 (by decide) <| hk125 (sA ob 5 ((i3 * (8 : Int32)) + i4) (0 : Int32)) i1 i2 i3 (i4 + (1 : Int32)) hf
    · refine Runs.icY (pc' := 155) d2_148 (feq hc8).2 (by decide) <| ?_
      refine Runs.iconst d2_155 ci_1 <| ?_
      refine chk_el hf fun hi10 hf => ?_
      exact Runs.iastoreA d2_156 fA_5 (by decide) hi10 <| Runs.iinc (P' := [vr a, vi i1, vi i2, vi i3, vi (i4 + (1 : Int32))]) d2_157 ci_1 rfl (by decide) rfl <| Runs.goto (pc' := 125) d2_160 (by decide) <| hk125 (sA ob 5 ((i3 * (8 : Int32)) + i4) (1 : Int32)) i1 i2 i3 (i4 + (1 : Int32)) hf
  · refine Runs.icY (pc' := 163) d2_131 (flt hc7).2.1 (by decide) <| ?_
    obtain rfl := Option.some.inj hf
    exact Runs.iloadN d2_163 rfl <| Runs.retI d2_164 rfl ⟨by decide, by decide⟩ ⟨rfl, rfl⟩
theorem X_broadcast_l125_p {C : Ctx} {top : Nat} {a : Nat} {H : List (Nat × Nat × Rec)} {res : Int32 × Rec} {NF : Nat} (n : Nat) (ob : Rec) (i1 : Int32) (i2 : Int32) (i3 : Int32) (i4 : Int32) (hf : X_broadcast_l125 NF n ob i1 i2 i3 i4 = some res) : Runs C B2 0 0 125 [vr a, vi i1, vi i2, vi i3, vi i4] [] (top, (a, 9, ob) :: H) (Ans (some (.int res.1)) (top, (a, 9, res.2) :: H)) := by
  induction n generalizing ob i1 i2 i3 i4 with
  | zero => cases (show (none : Option (Int32 × Rec)) = some res from hf)
  | succ n ih => exact X_broadcast_w125_p (X_broadcast_l125 NF n) (fun ob i1 i2 i3 i4 h => ih _ _ _ _ _ h) ob i1 i2 i3 i4 hf
def X_broadcast_w64 (NF : Nat) (k64 : Rec → Int32 → Int32 → Int32 → Int32 → Option (Int32 × Rec)) (ob : Rec) (i1 : Int32) (i2 : Int32) (i3 : Int32) (i4 : Int32) : Option (Int32 × Rec) :=
  if i4 < (gI ob 0) then
    chk (64 : Int32) ((i1 * (8 : Int32)) + i4) <|
    chk (512 : Int32) ((i3 * (8 : Int32)) + i4) <|
    k64 (sA ob 4 ((i3 * (8 : Int32)) + i4) (gA ob 2 ((i1 * (8 : Int32)) + i4))) i1 i2 i3 (i4 + (1 : Int32))
  else
    chk (512 : Int32) ((i3 * (8 : Int32)) + i1) <|
    (X_deliverAt (sA ob 4 ((i3 * (8 : Int32)) + i1) i2) i1 i1 i2).bind fun q5 =>
    X_broadcast_l125 NF NF q5 i1 i2 i3 (0 : Int32)
def X_broadcast_l64 (NF : Nat) : Nat → Rec → Int32 → Int32 → Int32 → Int32 → Option (Int32 × Rec)
  | 0, _, _, _, _, _ => none
  | n + 1, ob, i1, i2, i3, i4 => X_broadcast_w64 NF (X_broadcast_l64 NF n) ob i1 i2 i3 i4
set_option maxRecDepth 65536 in
set_option maxHeartbeats 4000000 in
theorem X_broadcast_w64_p {C : Ctx} {top : Nat} {a : Nat} {H : List (Nat × Nat × Rec)} {res : Int32 × Rec} {NF : Nat} (k64 : Rec → Int32 → Int32 → Int32 → Int32 → Option (Int32 × Rec)) (hk64 : ∀ (ob : Rec) (i1 : Int32) (i2 : Int32) (i3 : Int32) (i4 : Int32), k64 ob i1 i2 i3 i4 = some res → Runs C B2 0 0 64 [vr a, vi i1, vi i2, vi i3, vi i4] [] (top, (a, 9, ob) :: H) (Ans (some (.int res.1)) (top, (a, 9, res.2) :: H))) (ob : Rec) (i1 : Int32) (i2 : Int32) (i3 : Int32) (i4 : Int32) (hf : X_broadcast_w64 NF k64 ob i1 i2 i3 i4 = some res) : Runs C B2 0 0 64 [vr a, vi i1, vi i2, vi i3, vi i4] [] (top, (a, 9, ob) :: H) (Ans (some (.int res.1)) (top, (a, 9, res.2) :: H)) := by
  delta X_broadcast_w64 at hf
  refine Runs.iload d2_64 rfl <| Runs.aloadN d2_66 rfl <| Runs.getI d2_67 w29 fS_0 <| ?_
  refine ite_el hf (fun hc1 hf => ?_) (fun hc1 hf => ?_)
  · refine Runs.icN d2_70 (tlt hc1).2.1 <| ?_
    refine Runs.aloadN d2_73 rfl <| Runs.getA d2_74 fA_4 w19 (by decide) <| Runs.iloadN d2_77 rfl <| Runs.bipush d2_78 cb_8 <| Runs.imul d2_80 <| Runs.iload d2_81 rfl <| Runs.iadd d2_83 <| Runs.aloadN d2_84 rfl <| Runs.getA d2_85 fA_2 w15 (by decide) <| Runs.iloadN d2_88 rfl <| Runs.bipush d2_89 cb_8 <| Runs.imul d2_91 <| ?_
    refine Runs.iload d2_92 rfl <| Runs.iadd d2_94 <| ?_
    refine chk_el hf fun hi2 hf => ?_
    refine Runs.ialoadA d2_95 fA_2 (by decide) hi2 <| ?_
    refine chk_el hf fun hi3 hf => ?_
    exact Runs.iastoreA d2_96 fA_4 (by decide) hi3 <| Runs.iinc (P' := [vr a, vi i1, vi i2, vi i3, vi (i4 + (1 : Int32))]) d2_97 ci_1 rfl (by decide) rfl <| Runs.goto (pc' := 64) d2_100 (by decide) <| hk64 (sA ob 4 ((i3 * (8 : Int32)) + i4) (gA ob 2 ((i1 * (8 : Int32)) + i4))) i1 i2 i3 (i4 + (1 : Int32)) hf
  · refine Runs.icY (pc' := 103) d2_70 (flt hc1).2.1 (by decide) <| ?_
    refine Runs.aloadN d2_103 rfl <| Runs.getA d2_104 fA_4 w19 (by decide) <| Runs.iloadN d2_107 rfl <| Runs.bipush d2_108 cb_8 <| Runs.imul d2_110 <| Runs.iloadN d2_111 rfl <| Runs.iadd d2_112 <| Runs.iloadN d2_113 rfl <| ?_
    refine chk_el hf fun hi4 hf => ?_
    refine Runs.iastoreA d2_114 fA_4 (by decide) hi4 <| Runs.aloadN d2_115 rfl <| Runs.iloadN d2_116 rfl <| Runs.iloadN d2_117 rfl <| Runs.iloadN d2_118 rfl <| ?_
    refine bind_el hf fun q5 hg6 hf => ?_
    exact Runs.callP (N := B5) (W := 0) (as := [.int i1, .int i1, .int i2]) (S' := []) d2_119 w46 w47 w48 rfl cw5 ar5 rk2_5_0 (by decide) rfl rfl (X_deliverAt_pay hg6) <| ans0 <| Runs.iconst d2_122 ci_0 <| Runs.istore (P' := [vr a, vi i1, vi i2, vi i3, vi (0 : Int32)]) d2_123 (by decide) rfl <| X_broadcast_l125_p NF q5 i1 i2 i3 (0 : Int32) hf
theorem X_broadcast_l64_p {C : Ctx} {top : Nat} {a : Nat} {H : List (Nat × Nat × Rec)} {res : Int32 × Rec} {NF : Nat} (n : Nat) (ob : Rec) (i1 : Int32) (i2 : Int32) (i3 : Int32) (i4 : Int32) (hf : X_broadcast_l64 NF n ob i1 i2 i3 i4 = some res) : Runs C B2 0 0 64 [vr a, vi i1, vi i2, vi i3, vi i4] [] (top, (a, 9, ob) :: H) (Ans (some (.int res.1)) (top, (a, 9, res.2) :: H)) := by
  induction n generalizing ob i1 i2 i3 i4 with
  | zero => cases (show (none : Option (Int32 × Rec)) = some res from hf)
  | succ n ih => exact X_broadcast_w64_p (X_broadcast_l64 NF n) (fun ob i1 i2 i3 i4 h => ih _ _ _ _ _ h) ob i1 i2 i3 i4 hf
def X_broadcast (NF : Nat) (ob : Rec) (i1 : Int32) : Option (Int32 × Rec) :=
  (X_validProc ob i1).bind fun r11 =>
  if r11 = (0 : Int32) then
    some ((-1 : Int32), ob)
  else
    chk (8 : Int32) i1 <|
    if (gA ob 1 i1) = (0 : Int32) then
      chk (8 : Int32) i1 <|
      if (gA ob 0 i1) < (gI ob 1) then
        chk (8 : Int32) i1 <|
        chk (8 : Int32) i1 <|
        (X_msgIndex (sA ob 0 i1 ((gA ob 0 i1) + (1 : Int32))) i1 ((gA ob 0 i1) + (1 : Int32))).bind fun r20 =>
        X_broadcast_l64 NF NF (sA ob 0 i1 ((gA ob 0 i1) + (1 : Int32))) i1 ((gA ob 0 i1) + (1 : Int32)) r20 (0 : Int32)
      else
        some ((-3 : Int32), ob)
    else
      some ((-2 : Int32), ob)
set_option maxRecDepth 65536 in
set_option maxHeartbeats 4000000 in
theorem X_broadcast_p {C : Ctx} {top : Nat} {a : Nat} {H : List (Nat × Nat × Rec)} {res : Int32 × Rec} {NF : Nat} (ob : Rec) (i1 : Int32) (hf : X_broadcast NF ob i1 = some res) : Runs C B2 0 0 0 [vr a, vi i1, vn, vn, vn] [] (top, (a, 9, ob) :: H) (Ans (some (.int res.1)) (top, (a, 9, res.2) :: H)) := by
  delta X_broadcast at hf
  refine Runs.aloadN d2_0 rfl <| Runs.iloadN d2_1 rfl <| ?_
  refine bind_el hf fun r11 hg12 hf => ?_
  refine Runs.callP (N := B3) (W := 0) (as := [.int i1]) (S' := []) d2_2 w38 w39 w40 rfl cw3 ar3 rk2_3_0 (by decide) rfl rfl (X_validProc_pay hg12) <| ans1 <| ?_
  refine ite_el hf (fun hc13 hf => ?_) (fun hc13 hf => ?_)
  · refine Runs.ifN d2_5 (teq hc13).2 <| ?_
    obtain rfl := Option.some.inj hf
    exact Runs.iconst d2_8 ci_m1 <| Runs.retI d2_9 rfl ⟨by decide, by decide⟩ ⟨rfl, rfl⟩
  · refine Runs.ifY (pc' := 10) d2_5 (feq hc13).2 (by decide) <| ?_
    refine Runs.aloadN d2_10 rfl <| Runs.getA d2_11 fA_1 w13 (by decide) <| Runs.iloadN d2_14 rfl <| ?_
    refine chk_el hf fun hi14 hf => ?_
    refine Runs.baloadA d2_15 fA_1 (by decide) hi14 <| ?_
    refine ite_el hf (fun hc15 hf => ?_) (fun hc15 hf => ?_)
    · refine Runs.ifY (pc' := 22) d2_16 (teq hc15).1 (by decide) <| ?_
      refine Runs.aloadN d2_22 rfl <| Runs.getA d2_23 fA_0 w10 (by decide) <| Runs.iloadN d2_26 rfl <| ?_
      refine chk_el hf fun hi16 hf => ?_
      refine Runs.ialoadA d2_27 fA_0 (by decide) hi16 <| Runs.aloadN d2_28 rfl <| Runs.getI d2_29 w31 fS_1 <| ?_
      refine ite_el hf (fun hc17 hf => ?_) (fun hc17 hf => ?_)
      · refine Runs.icY (pc' := 38) d2_32 (tlt hc17).1 (by decide) <| ?_
        refine Runs.aloadN d2_38 rfl <| Runs.getA d2_39 fA_0 w10 (by decide) <| Runs.iloadN d2_42 rfl <| ?_
        refine chk_el hf fun hi18 hf => ?_
        refine Runs.ialoadA d2_43 fA_0 (by decide) hi18 <| Runs.iconst d2_44 ci_1 <| Runs.iadd d2_45 <| Runs.istoreN (P' := [vr a, vi i1, vi ((gA ob 0 i1) + (1 : Int32)), vn, vn]) d2_46 (by decide) rfl <| Runs.aloadN d2_47 rfl <| Runs.getA d2_48 fA_0 w10 (by decide) <| Runs.iloadN d2_51 rfl <| Runs.iloadN d2_52 rfl <| ?_
        refine chk_el hf fun hi19 hf => ?_
        refine Runs.iastoreA d2_53 fA_0 (by decide) hi19 <| Runs.aloadN d2_54 rfl <| Runs.iloadN d2_55 rfl <| Runs.iloadN d2_56 rfl <| ?_
        refine bind_el hf fun r20 hg21 hf => ?_
        exact Runs.callP (N := B4) (W := 0) (as := [.int i1, .int ((gA ob 0 i1) + (1 : Int32))]) (S' := []) d2_57 w42 w43 w44 rfl cw4 ar4 rk2_4_0 (by decide) rfl rfl (X_msgIndex_pay hg21) <| ans1 <| Runs.istoreN (P' := [vr a, vi i1, vi ((gA ob 0 i1) + (1 : Int32)), vi r20, vn]) d2_60 (by decide) rfl <| Runs.iconst d2_61 ci_0 <| Runs.istore (P' := [vr a, vi i1, vi ((gA ob 0 i1) + (1 : Int32)), vi r20, vi (0 : Int32)]) d2_62 (by decide) rfl <| X_broadcast_l64_p NF (sA ob 0 i1 ((gA ob 0 i1) + (1 : Int32))) i1 ((gA ob 0 i1) + (1 : Int32)) r20 (0 : Int32) hf
      · refine Runs.icN d2_32 (flt hc17).1 <| ?_
        obtain rfl := Option.some.inj hf
        exact Runs.bipush d2_35 cb_m3 <| Runs.retI d2_37 rfl ⟨by decide, by decide⟩ ⟨rfl, rfl⟩
    · refine Runs.ifN d2_16 (feq hc15).1 <| ?_
      obtain rfl := Option.some.inj hf
      exact Runs.bipush d2_19 cb_m2 <| Runs.retI d2_21 rfl ⟨by decide, by decide⟩ ⟨rfl, rfl⟩
theorem X_broadcast_pay {C : Ctx} {top : Nat} {a : Nat} {H : List (Nat × Nat × Rec)} {res : Int32 × Rec} {NF : Nat} {ob : Rec} {i1 : Int32} (hf : X_broadcast NF ob i1 = some res) : Pays C B2 [.ref a, .int i1] (top, (a, 9, ob) :: H) (Ans (some (.int res.1)) (top, (a, 9, res.2) :: H)) :=
  Pays.of pnK (Nat.le_of_ble_eq_true rfl) (P := [vr a, vi i1, vn, vn, vn]) 3 rfl (X_broadcast_p ob i1 hf)
def X_exists (ob : Rec) (i1 : Int32) (i2 : Int32) : Option (Int32) :=
  if i1 < (0 : Int32) then
    some (0 : Int32)
  else
    if i1 < (gI ob 0) then
      if i2 < (1 : Int32) then
        some (0 : Int32)
      else
        chk (8 : Int32) i1 <|
        if (gA ob 0 i1) < i2 then
          some (0 : Int32)
        else
          some (1 : Int32)
    else
      some (0 : Int32)
set_option maxRecDepth 65536 in
set_option maxHeartbeats 4000000 in
theorem X_exists_p {C : Ctx} {top : Nat} {a : Nat} {H : List (Nat × Nat × Rec)} {ob : Rec} {res : Int32} (i1 : Int32) (i2 : Int32) (hf : X_exists ob i1 i2 = some res) : Runs C B9 0 0 0 [vr a, vi i1, vi i2] [] (top, (a, 9, ob) :: H) (Ans (some (.int res)) (top, (a, 9, ob) :: H)) := by
  delta X_exists at hf
  refine Runs.iloadN d9_0 rfl <| ?_
  refine ite_el hf (fun hc1 hf => ?_) (fun hc1 hf => ?_)
  · refine Runs.ifY (pc' := 31) d9_1 (tlt hc1).1 (by decide) <| ?_
    obtain rfl := Option.some.inj hf
    exact Runs.iconst d9_31 ci_0 <| Runs.retZ (y := (0 : Int32)) d9_32 rfl ⟨by decide, by decide⟩ rfl ⟨rfl, rfl⟩
  · refine Runs.ifN d9_1 (flt hc1).1 <| ?_
    refine Runs.iloadN d9_4 rfl <| Runs.aloadN d9_5 rfl <| Runs.getI d9_6 w29 fS_0 <| ?_
    refine ite_el hf (fun hc2 hf => ?_) (fun hc2 hf => ?_)
    · refine Runs.icN d9_9 (tlt hc2).2.1 <| ?_
      refine Runs.iloadN d9_12 rfl <| Runs.iconst d9_13 ci_1 <| ?_
      refine ite_el hf (fun hc3 hf => ?_) (fun hc3 hf => ?_)
      · refine Runs.icY (pc' := 31) d9_14 (tlt hc3).1 (by decide) <| ?_
        obtain rfl := Option.some.inj hf
        exact Runs.iconst d9_31 ci_0 <| Runs.retZ (y := (0 : Int32)) d9_32 rfl ⟨by decide, by decide⟩ rfl ⟨rfl, rfl⟩
      · refine Runs.icN d9_14 (flt hc3).1 <| ?_
        refine Runs.iloadN d9_17 rfl <| Runs.aloadN d9_18 rfl <| Runs.getA d9_19 fA_0 w10 (by decide) <| Runs.iloadN d9_22 rfl <| ?_
        refine chk_el hf fun hi4 hf => ?_
        refine Runs.ialoadA d9_23 fA_0 (by decide) hi4 <| ?_
        refine ite_el hf (fun hc5 hf => ?_) (fun hc5 hf => ?_)
        · refine Runs.icY (pc' := 31) d9_24 (tlt hc5).2.2.1 (by decide) <| ?_
          obtain rfl := Option.some.inj hf
          exact Runs.iconst d9_31 ci_0 <| Runs.retZ (y := (0 : Int32)) d9_32 rfl ⟨by decide, by decide⟩ rfl ⟨rfl, rfl⟩
        · refine Runs.icN d9_24 (flt hc5).2.2.1 <| ?_
          obtain rfl := Option.some.inj hf
          exact Runs.iconst d9_27 ci_1 <| Runs.goto (pc' := 32) d9_28 (by decide) <| Runs.retZ (y := (1 : Int32)) d9_32 rfl ⟨by decide, by decide⟩ rfl ⟨rfl, rfl⟩
    · refine Runs.icY (pc' := 31) d9_9 (flt hc2).2.1 (by decide) <| ?_
      obtain rfl := Option.some.inj hf
      exact Runs.iconst d9_31 ci_0 <| Runs.retZ (y := (0 : Int32)) d9_32 rfl ⟨by decide, by decide⟩ rfl ⟨rfl, rfl⟩
theorem X_exists_pay {C : Ctx} {top : Nat} {a : Nat} {H : List (Nat × Nat × Rec)} {ob : Rec} {res : Int32} {i1 : Int32} {i2 : Int32} (hf : X_exists ob i1 i2 = some res) : Pays C B9 [.ref a, .int i1, .int i2] (top, (a, 9, ob) :: H) (Ans (some (.int res)) (top, (a, 9, ob) :: H)) :=
  Pays.of pnK (Nat.le_of_ble_eq_true rfl) (P := [vr a, vi i1, vi i2]) 0 rfl (X_exists_p i1 i2 hf)
def X_copyIndex (ob : Rec) (i1 : Int32) (i2 : Int32) (i3 : Int32) : Option (Int32) :=
  some (((((i1 * (8 : Int32)) + i2) - (1 : Int32)) * (8 : Int32)) + i3)
set_option maxRecDepth 65536 in
set_option maxHeartbeats 4000000 in
theorem X_copyIndex_p {C : Ctx} {top : Nat} {a : Nat} {H : List (Nat × Nat × Rec)} {ob : Rec} {res : Int32} (i1 : Int32) (i2 : Int32) (i3 : Int32) (hf : X_copyIndex ob i1 i2 i3 = some res) : Runs C B10 0 0 0 [vr a, vi i1, vi i2, vi i3] [] (top, (a, 9, ob) :: H) (Ans (some (.int res)) (top, (a, 9, ob) :: H)) := by
  delta X_copyIndex at hf
  obtain rfl := Option.some.inj hf
  exact Runs.iloadN d10_0 rfl <| Runs.bipush d10_1 cb_8 <| Runs.imul d10_3 <| Runs.iloadN d10_4 rfl <| Runs.iadd d10_5 <| Runs.iconst d10_6 ci_1 <| Runs.isub d10_7 <| Runs.bipush d10_8 cb_8 <| Runs.imul d10_10 <| Runs.iloadN d10_11 rfl <| Runs.iadd d10_12 <| Runs.retI d10_13 rfl ⟨by decide, by decide⟩ ⟨rfl, rfl⟩
theorem X_copyIndex_pay {C : Ctx} {top : Nat} {a : Nat} {H : List (Nat × Nat × Rec)} {ob : Rec} {res : Int32} {i1 : Int32} {i2 : Int32} {i3 : Int32} (hf : X_copyIndex ob i1 i2 i3 = some res) : Pays C B10 [.ref a, .int i1, .int i2, .int i3] (top, (a, 9, ob) :: H) (Ans (some (.int res)) (top, (a, 9, ob) :: H)) :=
  Pays.of pnK (Nat.le_of_ble_eq_true rfl) (P := [vr a, vi i1, vi i2, vi i3]) 0 rfl (X_copyIndex_p i1 i2 i3 hf)
def X_isDeliverable_w63 (NF : Nat) (ob : Rec) (k63 : Int32 → Int32 → Int32 → Int32 → Option (Int32)) (i1 : Int32) (i2 : Int32) (i5 : Int32) (i6 : Int32) : Option (Int32) :=
  if i6 < (gI ob 0) then
    if i6 = i2 then
      k63 i1 i2 i5 (i6 + (1 : Int32))
    else
      chk (512 : Int32) ((i5 * (8 : Int32)) + i6) <|
      chk (64 : Int32) ((i1 * (8 : Int32)) + i6) <|
      if (gA ob 2 ((i1 * (8 : Int32)) + i6)) < (gA ob 4 ((i5 * (8 : Int32)) + i6)) then
        some (0 : Int32)
      else
        k63 i1 i2 i5 (i6 + (1 : Int32))
  else
    some (1 : Int32)
def X_isDeliverable_l63 (NF : Nat) (ob : Rec) : Nat → Int32 → Int32 → Int32 → Int32 → Option (Int32)
  | 0, _, _, _, _ => none
  | n + 1, i1, i2, i5, i6 => X_isDeliverable_w63 NF ob (X_isDeliverable_l63 NF ob n) i1 i2 i5 i6
set_option maxRecDepth 65536 in
set_option maxHeartbeats 4000000 in
theorem X_isDeliverable_w63_p {C : Ctx} {top : Nat} {a : Nat} {H : List (Nat × Nat × Rec)} {ob : Rec} {res : Int32} {NF : Nat} (k63 : Int32 → Int32 → Int32 → Int32 → Option (Int32)) (hk63 : ∀ (i1 : Int32) (i2 : Int32) (i5 : Int32) (i6 : Int32), k63 i1 i2 i5 i6 = some res → Runs C B12 0 0 63 [vr a, vi i1, vi i2, vn, vn, vi i5, vi i6] [] (top, (a, 9, ob) :: H) (Ans (some (.int res)) (top, (a, 9, ob) :: H))) (i1 : Int32) (i2 : Int32) (i5 : Int32) (i6 : Int32) (hf : X_isDeliverable_w63 NF ob k63 i1 i2 i5 i6 = some res) : Runs C B12 0 0 63 [vr a, vi i1, vi i2, vn, vn, vi i5, vi i6] [] (top, (a, 9, ob) :: H) (Ans (some (.int res)) (top, (a, 9, ob) :: H)) := by
  delta X_isDeliverable_w63 at hf
  refine Runs.iload d12_63 rfl <| Runs.aloadN d12_65 rfl <| Runs.getI d12_66 w29 fS_0 <| ?_
  refine ite_el hf (fun hc1 hf => ?_) (fun hc1 hf => ?_)
  · refine Runs.icN d12_69 (tlt hc1).2.1 <| ?_
    refine Runs.iload d12_72 rfl <| Runs.iloadN d12_74 rfl <| ?_
    refine ite_el hf (fun hc2 hf => ?_) (fun hc2 hf => ?_)
    · refine Runs.icY (pc' := 108) d12_75 (teq hc2).1 (by decide) <| ?_
      exact Runs.iinc (P' := [vr a, vi i1, vi i2, vn, vn, vi i5, vi (i6 + (1 : Int32))]) d12_108 ci_1 rfl (by decide) rfl <| Runs.goto (pc' := 63) d12_111 (by decide) <| hk63 i1 i2 i5 (i6 + (1 : Int32)) hf
    · refine Runs.icN d12_75 (feq hc2).1 <| ?_
      refine Runs.aloadN d12_78 rfl <| Runs.getA d12_79 fA_4 w19 (by decide) <| Runs.iload d12_82 rfl <| Runs.bipush d12_84 cb_8 <| Runs.imul d12_86 <| Runs.iload d12_87 rfl <| Runs.iadd d12_89 <| ?_
      refine chk_el hf fun hi3 hf => ?_
      refine Runs.ialoadA d12_90 fA_4 (by decide) hi3 <| Runs.aloadN d12_91 rfl <| Runs.getA d12_92 fA_2 w15 (by decide) <| Runs.iloadN d12_95 rfl <| Runs.bipush d12_96 cb_8 <| Runs.imul d12_98 <| Runs.iload d12_99 rfl <| Runs.iadd d12_101 <| ?_
      refine chk_el hf fun hi4 hf => ?_
      refine Runs.ialoadA d12_102 fA_2 (by decide) hi4 <| ?_
      refine ite_el hf (fun hc5 hf => ?_) (fun hc5 hf => ?_)
      · refine Runs.icN d12_103 (tlt hc5).2.2.2 <| ?_
        obtain rfl := Option.some.inj hf
        exact Runs.iconst d12_106 ci_0 <| Runs.retZ (y := (0 : Int32)) d12_107 rfl ⟨by decide, by decide⟩ rfl ⟨rfl, rfl⟩
      · refine Runs.icY (pc' := 108) d12_103 (flt hc5).2.2.2 (by decide) <| ?_
        exact Runs.iinc (P' := [vr a, vi i1, vi i2, vn, vn, vi i5, vi (i6 + (1 : Int32))]) d12_108 ci_1 rfl (by decide) rfl <| Runs.goto (pc' := 63) d12_111 (by decide) <| hk63 i1 i2 i5 (i6 + (1 : Int32)) hf
  · refine Runs.icY (pc' := 114) d12_69 (flt hc1).2.1 (by decide) <| ?_
    obtain rfl := Option.some.inj hf
    exact Runs.iconst d12_114 ci_1 <| Runs.retZ (y := (1 : Int32)) d12_115 rfl ⟨by decide, by decide⟩ rfl ⟨rfl, rfl⟩
theorem X_isDeliverable_l63_p {C : Ctx} {top : Nat} {a : Nat} {H : List (Nat × Nat × Rec)} {ob : Rec} {res : Int32} {NF : Nat} (n : Nat) (i1 : Int32) (i2 : Int32) (i5 : Int32) (i6 : Int32) (hf : X_isDeliverable_l63 NF ob n i1 i2 i5 i6 = some res) : Runs C B12 0 0 63 [vr a, vi i1, vi i2, vn, vn, vi i5, vi i6] [] (top, (a, 9, ob) :: H) (Ans (some (.int res)) (top, (a, 9, ob) :: H)) := by
  induction n generalizing i1 i2 i5 i6 with
  | zero => cases (show (none : Option (Int32)) = some res from hf)
  | succ n ih => exact X_isDeliverable_w63_p (X_isDeliverable_l63 NF ob n) (fun i1 i2 i5 i6 h => ih _ _ _ _ h) i1 i2 i5 i6 hf
def X_isDeliverable (NF : Nat) (ob : Rec) (i1 : Int32) (i2 : Int32) (i3 : Int32) : Option (Int32) :=
  (X_exists ob i2 i3).bind fun r6 =>
  if r6 = (0 : Int32) then
    some (0 : Int32)
  else
    (X_stateIndex ob i1 i2 i3).bind fun r9 =>
    chk (512 : Int32) r9 <|
    if (gA ob 3 r9) = (1 : Int32) then
      chk (64 : Int32) ((i1 * (8 : Int32)) + i2) <|
      if i3 = ((gA ob 2 ((i1 * (8 : Int32)) + i2)) + (1 : Int32)) then
        (X_msgIndex ob i2 i3).bind fun r15 =>
        X_isDeliverable_l63 NF ob NF i1 i2 r15 (0 : Int32)
      else
        some (0 : Int32)
    else
      some (0 : Int32)
set_option maxRecDepth 65536 in
set_option maxHeartbeats 4000000 in
theorem X_isDeliverable_p {C : Ctx} {top : Nat} {a : Nat} {H : List (Nat × Nat × Rec)} {ob : Rec} {res : Int32} {NF : Nat} (i1 : Int32) (i2 : Int32) (i3 : Int32) (hf : X_isDeliverable NF ob i1 i2 i3 = some res) : Runs C B12 0 0 0 [vr a, vi i1, vi i2, vi i3, vn, vn, vn] [] (top, (a, 9, ob) :: H) (Ans (some (.int res)) (top, (a, 9, ob) :: H)) := by
  delta X_isDeliverable at hf
  refine Runs.aloadN d12_0 rfl <| Runs.iloadN d12_1 rfl <| Runs.iloadN d12_2 rfl <| ?_
  refine bind_el hf fun r6 hg7 hf => ?_
  refine Runs.callP (N := B9) (W := 0) (as := [.int i2, .int i3]) (S' := []) d12_3 w63 w64 w65 rfl cw9 ar9 rk12_9_0 (by decide) rfl rfl (X_exists_pay hg7) <| ans1 <| ?_
  refine ite_el hf (fun hc8 hf => ?_) (fun hc8 hf => ?_)
  · refine Runs.ifN d12_6 (teq hc8).2 <| ?_
    obtain rfl := Option.some.inj hf
    exact Runs.iconst d12_9 ci_0 <| Runs.retZ (y := (0 : Int32)) d12_10 rfl ⟨by decide, by decide⟩ rfl ⟨rfl, rfl⟩
  · refine Runs.ifY (pc' := 11) d12_6 (feq hc8).2 (by decide) <| ?_
    refine Runs.aloadN d12_11 rfl <| Runs.iloadN d12_12 rfl <| Runs.iloadN d12_13 rfl <| Runs.iloadN d12_14 rfl <| ?_
    refine bind_el hf fun r9 hg10 hf => ?_
    refine Runs.callP (N := B6) (W := 0) (as := [.int i1, .int i2, .int i3]) (S' := []) d12_15 w50 w51 w52 rfl cw6 ar6 rk12_6_0 (by decide) rfl rfl (X_stateIndex_pay hg10) <| ans1 <| Runs.istore (P' := [vr a, vi i1, vi i2, vi i3, vi r9, vn, vn]) d12_18 (by decide) rfl <| Runs.aloadN d12_20 rfl <| Runs.getA d12_21 fA_3 w17 (by decide) <| Runs.iload d12_24 rfl <| ?_
    refine chk_el hf fun hi11 hf => ?_
    refine Runs.ialoadA d12_26 fA_3 (by decide) hi11 <| Runs.iconst d12_27 ci_1 <| ?_
    refine ite_el hf (fun hc12 hf => ?_) (fun hc12 hf => ?_)
    · refine Runs.icY (pc' := 33) d12_28 (teq hc12).1 (by decide) <| ?_
      refine Runs.iloadN d12_33 rfl <| Runs.aloadN d12_34 rfl <| Runs.getA d12_35 fA_2 w15 (by decide) <| Runs.iloadN d12_38 rfl <| Runs.bipush d12_39 cb_8 <| Runs.imul d12_41 <| Runs.iloadN d12_42 rfl <| Runs.iadd d12_43 <| ?_
      refine chk_el hf fun hi13 hf => ?_
      refine Runs.ialoadA d12_44 fA_2 (by decide) hi13 <| Runs.iconst d12_45 ci_1 <| Runs.iadd d12_46 <| ?_
      refine ite_el hf (fun hc14 hf => ?_) (fun hc14 hf => ?_)
      · refine Runs.icY (pc' := 52) d12_47 (teq hc14).1 (by decide) <| ?_
        refine Runs.aloadN d12_52 rfl <| Runs.iloadN d12_53 rfl <| Runs.iloadN d12_54 rfl <| ?_
        refine bind_el hf fun r15 hg16 hf => ?_
        exact Runs.callP (N := B4) (W := 0) (as := [.int i2, .int i3]) (S' := []) d12_55 w42 w43 w44 rfl cw4 ar4 rk12_4_0 (by decide) rfl rfl (X_msgIndex_pay hg16) <| ans1 <| Runs.istore (P' := [vr a, vi i1, vi i2, vi i3, vi r9, vi r15, vn]) d12_58 (by decide) rfl <| Runs.iconst d12_60 ci_0 <| Runs.istore (P' := [vr a, vi i1, vi i2, vi i3, vi r9, vi r15, vi (0 : Int32)]) d12_61 (by decide) rfl <| Runs.forget [true, true, true, false, false, true, true] rfl <| X_isDeliverable_l63_p NF i1 i2 r15 (0 : Int32) hf
      · refine Runs.icN d12_47 (feq hc14).1 <| ?_
        obtain rfl := Option.some.inj hf
        exact Runs.iconst d12_50 ci_0 <| Runs.retZ (y := (0 : Int32)) d12_51 rfl ⟨by decide, by decide⟩ rfl ⟨rfl, rfl⟩
    · refine Runs.icN d12_28 (feq hc12).1 <| ?_
      obtain rfl := Option.some.inj hf
      exact Runs.iconst d12_31 ci_0 <| Runs.retZ (y := (0 : Int32)) d12_32 rfl ⟨by decide, by decide⟩ rfl ⟨rfl, rfl⟩
theorem X_isDeliverable_pay {C : Ctx} {top : Nat} {a : Nat} {H : List (Nat × Nat × Rec)} {ob : Rec} {res : Int32} {NF : Nat} {i1 : Int32} {i2 : Int32} {i3 : Int32} (hf : X_isDeliverable NF ob i1 i2 i3 = some res) : Pays C B12 [.ref a, .int i1, .int i2, .int i3] (top, (a, 9, ob) :: H) (Ans (some (.int res)) (top, (a, 9, ob) :: H)) :=
  Pays.of pnK (Nat.le_of_ble_eq_true rfl) (P := [vr a, vi i1, vi i2, vi i3, vn, vn, vn]) 3 rfl (X_isDeliverable_p i1 i2 i3 hf)
def X_cascade_b73 (NF : Nat) (k4 : Rec → Int32 → Int32 → Int32 → Option (Int32 × Rec)) (ob : Rec) (i1 : Int32) (i2 : Int32) (i3 : Int32) (i4 : Int32) (i5 : Int32) : Option (Int32 × Rec) :=
  if i4 < (0 : Int32) then
    some (i2, ob)
  else
    (X_deliverAt ob i1 i4 i5).bind fun q8 =>
    k4 q8 i1 (i2 + (1 : Int32)) (i3 + (1 : Int32))
set_option maxRecDepth 65536 in
set_option maxHeartbeats 4000000 in
theorem X_cascade_b73_p {C : Ctx} {top : Nat} {a : Nat} {H : List (Nat × Nat × Rec)} {res : Int32 × Rec} {NF : Nat} (k4 : Rec → Int32 → Int32 → Int32 → Option (Int32 × Rec)) (hk4 : ∀ (ob : Rec) (i1 : Int32) (i2 : Int32) (i3 : Int32), k4 ob i1 i2 i3 = some res → Runs C B11 0 0 4 [vr a, vi i1, vi i2, vi i3, vn, vn, vn, vn] [] (top, (a, 9, ob) :: H) (Ans (some (.int res.1)) (top, (a, 9, res.2) :: H))) (ob : Rec) (i1 : Int32) (i2 : Int32) (i3 : Int32) (i4 : Int32) (i5 : Int32) (hf : X_cascade_b73 NF k4 ob i1 i2 i3 i4 i5 = some res) : Runs C B11 0 0 73 [vr a, vi i1, vi i2, vi i3, vi i4, vi i5, vn, vn] [] (top, (a, 9, ob) :: H) (Ans (some (.int res.1)) (top, (a, 9, res.2) :: H)) := by
  delta X_cascade_b73 at hf
  refine Runs.iload d11_73 rfl <| ?_
  refine ite_el hf (fun hc7 hf => ?_) (fun hc7 hf => ?_)
  · refine Runs.ifN d11_75 (tlt hc7).2.1 <| ?_
    obtain rfl := Option.some.inj hf
    exact Runs.goto (pc' := 99) d11_78 (by decide) <| Runs.iloadN d11_99 rfl <| Runs.retI d11_100 rfl ⟨by decide, by decide⟩ ⟨rfl, rfl⟩
  · refine Runs.ifY (pc' := 81) d11_75 (flt hc7).2.1 (by decide) <| ?_
    refine Runs.aloadN d11_81 rfl <| Runs.iloadN d11_82 rfl <| Runs.iload d11_83 rfl <| Runs.iload d11_85 rfl <| ?_
    refine bind_el hf fun q8 hg9 hf => ?_
    exact Runs.callP (N := B5) (W := 0) (as := [.int i1, .int i4, .int i5]) (S' := []) d11_87 w46 w47 w48 rfl cw5 ar5 rk11_5_0 (by decide) rfl rfl (X_deliverAt_pay hg9) <| ans0 <| Runs.iinc (P' := [vr a, vi i1, vi (i2 + (1 : Int32)), vi i3, vi i4, vi i5, vn, vn]) d11_90 ci_1 rfl (by decide) rfl <| Runs.iinc (P' := [vr a, vi i1, vi (i2 + (1 : Int32)), vi (i3 + (1 : Int32)), vi i4, vi i5, vn, vn]) d11_93 ci_1 rfl (by decide) rfl <| Runs.goto (pc' := 4) d11_96 (by decide) <| Runs.forget [true, true, true, true, false, false, false, false] rfl <| hk4 q8 i1 (i2 + (1 : Int32)) (i3 + (1 : Int32)) hf
def X_cascade_w19 (NF : Nat) (k4 : Rec → Int32 → Int32 → Int32 → Option (Int32 × Rec)) (k19 : Rec → Int32 → Int32 → Int32 → Int32 → Int32 → Int32 → Option (Int32 × Rec)) (ob : Rec) (i1 : Int32) (i2 : Int32) (i3 : Int32) (i4 : Int32) (i5 : Int32) (i6 : Int32) : Option (Int32 × Rec) :=
  if i6 < (gI ob 0) then
    chk (64 : Int32) ((i1 * (8 : Int32)) + i6) <|
    (X_isDeliverable NF ob i1 i6 ((gA ob 2 ((i1 * (8 : Int32)) + i6)) + (1 : Int32))).bind fun r4 =>
    if r4 = (0 : Int32) then
      k19 ob i1 i2 i3 i4 i5 (i6 + (1 : Int32))
    else
      X_cascade_b73 NF k4 ob i1 i2 i3 i6 ((gA ob 2 ((i1 * (8 : Int32)) + i6)) + (1 : Int32))
  else
    X_cascade_b73 NF k4 ob i1 i2 i3 i4 i5
def X_cascade_l19 (NF : Nat) (k4 : Rec → Int32 → Int32 → Int32 → Option (Int32 × Rec)) : Nat → Rec → Int32 → Int32 → Int32 → Int32 → Int32 → Int32 → Option (Int32 × Rec)
  | 0, _, _, _, _, _, _, _ => none
  | n + 1, ob, i1, i2, i3, i4, i5, i6 => X_cascade_w19 NF k4 (X_cascade_l19 NF k4 n) ob i1 i2 i3 i4 i5 i6
set_option maxRecDepth 65536 in
set_option maxHeartbeats 4000000 in
theorem X_cascade_w19_p {C : Ctx} {top : Nat} {a : Nat} {H : List (Nat × Nat × Rec)} {res : Int32 × Rec} {NF : Nat} (k4 : Rec → Int32 → Int32 → Int32 → Option (Int32 × Rec)) (hk4 : ∀ (ob : Rec) (i1 : Int32) (i2 : Int32) (i3 : Int32), k4 ob i1 i2 i3 = some res → Runs C B11 0 0 4 [vr a, vi i1, vi i2, vi i3, vn, vn, vn, vn] [] (top, (a, 9, ob) :: H) (Ans (some (.int res.1)) (top, (a, 9, res.2) :: H))) (k19 : Rec → Int32 → Int32 → Int32 → Int32 → Int32 → Int32 → Option (Int32 × Rec)) (hk19 : ∀ (ob : Rec) (i1 : Int32) (i2 : Int32) (i3 : Int32) (i4 : Int32) (i5 : Int32) (i6 : Int32), k19 ob i1 i2 i3 i4 i5 i6 = some res → Runs C B11 0 0 19 [vr a, vi i1, vi i2, vi i3, vi i4, vi i5, vi i6, vn] [] (top, (a, 9, ob) :: H) (Ans (some (.int res.1)) (top, (a, 9, res.2) :: H))) (ob : Rec) (i1 : Int32) (i2 : Int32) (i3 : Int32) (i4 : Int32) (i5 : Int32) (i6 : Int32) (hf : X_cascade_w19 NF k4 k19 ob i1 i2 i3 i4 i5 i6 = some res) : Runs C B11 0 0 19 [vr a, vi i1, vi i2, vi i3, vi i4, vi i5, vi i6, vn] [] (top, (a, 9, ob) :: H) (Ans (some (.int res.1)) (top, (a, 9, res.2) :: H)) := by
  delta X_cascade_w19 at hf
  refine Runs.iload d11_19 rfl <| Runs.aloadN d11_21 rfl <| Runs.getI d11_22 w29 fS_0 <| ?_
  refine ite_el hf (fun hc2 hf => ?_) (fun hc2 hf => ?_)
  · refine Runs.icN d11_25 (tlt hc2).2.1 <| ?_
    refine Runs.aloadN d11_28 rfl <| Runs.getA d11_29 fA_2 w15 (by decide) <| Runs.iloadN d11_32 rfl <| Runs.bipush d11_33 cb_8 <| Runs.imul d11_35 <| Runs.iload d11_36 rfl <| Runs.iadd d11_38 <| ?_
    refine chk_el hf fun hi3 hf => ?_
    refine Runs.ialoadA d11_39 fA_2 (by decide) hi3 <| Runs.iconst d11_40 ci_1 <| Runs.iadd d11_41 <| Runs.istore (P' := [vr a, vi i1, vi i2, vi i3, vi i4, vi i5, vi i6, vi ((gA ob 2 ((i1 * (8 : Int32)) + i6)) + (1 : Int32))]) d11_42 (by decide) rfl <| Runs.aloadN d11_44 rfl <| Runs.iloadN d11_45 rfl <| Runs.iload d11_46 rfl <| Runs.iload d11_48 rfl <| ?_
    refine bind_el hf fun r4 hg5 hf => ?_
    refine Runs.callP (N := B12) (W := 0) (as := [.int i1, .int i6, .int ((gA ob 2 ((i1 * (8 : Int32)) + i6)) + (1 : Int32))]) (S' := []) d11_50 w75 w76 w77 rfl cw12 ar12 rk11_12_0 (by decide) rfl rfl (X_isDeliverable_pay hg5) <| ans1 <| ?_
    refine ite_el hf (fun hc6 hf => ?_) (fun hc6 hf => ?_)
    · refine Runs.ifY (pc' := 67) d11_53 (teq hc6).1 (by decide) <| ?_
      exact Runs.iinc (P' := [vr a, vi i1, vi i2, vi i3, vi i4, vi i5, vi (i6 + (1 : Int32)), vi ((gA ob 2 ((i1 * (8 : Int32)) + i6)) + (1 : Int32))]) d11_67 ci_1 rfl (by decide) rfl <| Runs.goto (pc' := 19) d11_70 (by decide) <| Runs.forget [true, true, true, true, true, true, true, false] rfl <| hk19 ob i1 i2 i3 i4 i5 (i6 + (1 : Int32)) hf
    · refine Runs.ifN d11_53 (feq hc6).1 <| ?_
      exact Runs.iload d11_56 rfl <| Runs.istore (P' := [vr a, vi i1, vi i2, vi i3, vi i6, vi i5, vi i6, vi ((gA ob 2 ((i1 * (8 : Int32)) + i6)) + (1 : Int32))]) d11_58 (by decide) rfl <| Runs.iload d11_60 rfl <| Runs.istore (P' := [vr a, vi i1, vi i2, vi i3, vi i6, vi ((gA ob 2 ((i1 * (8 : Int32)) + i6)) + (1 : Int32)), vi i6, vi ((gA ob 2 ((i1 * (8 : Int32)) + i6)) + (1 : Int32))]) d11_62 (by decide) rfl <| Runs.goto (pc' := 73) d11_64 (by decide) <| Runs.forget [true, true, true, true, true, true, false, false] rfl <| X_cascade_b73_p k4 hk4 ob i1 i2 i3 i6 ((gA ob 2 ((i1 * (8 : Int32)) + i6)) + (1 : Int32)) hf
  · exact Runs.icY (pc' := 73) d11_25 (flt hc2).2.1 (by decide) <| Runs.forget [true, true, true, true, true, true, false, false] rfl <| X_cascade_b73_p k4 hk4 ob i1 i2 i3 i4 i5 hf
theorem X_cascade_l19_p {C : Ctx} {top : Nat} {a : Nat} {H : List (Nat × Nat × Rec)} {res : Int32 × Rec} {NF : Nat} (k4 : Rec → Int32 → Int32 → Int32 → Option (Int32 × Rec)) (hk4 : ∀ (ob : Rec) (i1 : Int32) (i2 : Int32) (i3 : Int32), k4 ob i1 i2 i3 = some res → Runs C B11 0 0 4 [vr a, vi i1, vi i2, vi i3, vn, vn, vn, vn] [] (top, (a, 9, ob) :: H) (Ans (some (.int res.1)) (top, (a, 9, res.2) :: H))) (n : Nat) (ob : Rec) (i1 : Int32) (i2 : Int32) (i3 : Int32) (i4 : Int32) (i5 : Int32) (i6 : Int32) (hf : X_cascade_l19 NF k4 n ob i1 i2 i3 i4 i5 i6 = some res) : Runs C B11 0 0 19 [vr a, vi i1, vi i2, vi i3, vi i4, vi i5, vi i6, vn] [] (top, (a, 9, ob) :: H) (Ans (some (.int res.1)) (top, (a, 9, res.2) :: H)) := by
  induction n generalizing ob i1 i2 i3 i4 i5 i6 with
  | zero => cases (show (none : Option (Int32 × Rec)) = some res from hf)
  | succ n ih => exact X_cascade_w19_p k4 hk4 (X_cascade_l19 NF k4 n) (fun ob i1 i2 i3 i4 i5 i6 h => ih _ _ _ _ _ _ _ h) ob i1 i2 i3 i4 i5 i6 hf
def X_cascade_w4 (NF : Nat) (k4 : Rec → Int32 → Int32 → Int32 → Option (Int32 × Rec)) (ob : Rec) (i1 : Int32) (i2 : Int32) (i3 : Int32) : Option (Int32 × Rec) :=
  if i3 < (65 : Int32) then
    X_cascade_l19 NF k4 NF ob i1 i2 i3 (-1 : Int32) (0 : Int32) (0 : Int32)
  else
    some (i2, ob)
def X_cascade_l4 (NF : Nat) : Nat → Rec → Int32 → Int32 → Int32 → Option (Int32 × Rec)
  | 0, _, _, _, _ => none
  | n + 1, ob, i1, i2, i3 => X_cascade_w4 NF (X_cascade_l4 NF n) ob i1 i2 i3
set_option maxRecDepth 65536 in
set_option maxHeartbeats 4000000 in
theorem X_cascade_w4_p {C : Ctx} {top : Nat} {a : Nat} {H : List (Nat × Nat × Rec)} {res : Int32 × Rec} {NF : Nat} (k4 : Rec → Int32 → Int32 → Int32 → Option (Int32 × Rec)) (hk4 : ∀ (ob : Rec) (i1 : Int32) (i2 : Int32) (i3 : Int32), k4 ob i1 i2 i3 = some res → Runs C B11 0 0 4 [vr a, vi i1, vi i2, vi i3, vn, vn, vn, vn] [] (top, (a, 9, ob) :: H) (Ans (some (.int res.1)) (top, (a, 9, res.2) :: H))) (ob : Rec) (i1 : Int32) (i2 : Int32) (i3 : Int32) (hf : X_cascade_w4 NF k4 ob i1 i2 i3 = some res) : Runs C B11 0 0 4 [vr a, vi i1, vi i2, vi i3, vn, vn, vn, vn] [] (top, (a, 9, ob) :: H) (Ans (some (.int res.1)) (top, (a, 9, res.2) :: H)) := by
  delta X_cascade_w4 at hf
  refine Runs.iloadN d11_4 rfl <| Runs.bipush d11_5 cb_65 <| ?_
  refine ite_el hf (fun hc1 hf => ?_) (fun hc1 hf => ?_)
  · refine Runs.icN d11_7 (tlt hc1).2.1 <| ?_
    exact Runs.iconst d11_10 ci_m1 <| Runs.istore (P' := [vr a, vi i1, vi i2, vi i3, vi (-1 : Int32), vn, vn, vn]) d11_11 (by decide) rfl <| Runs.iconst d11_13 ci_0 <| Runs.istore (P' := [vr a, vi i1, vi i2, vi i3, vi (-1 : Int32), vi (0 : Int32), vn, vn]) d11_14 (by decide) rfl <| Runs.iconst d11_16 ci_0 <| Runs.istore (P' := [vr a, vi i1, vi i2, vi i3, vi (-1 : Int32), vi (0 : Int32), vi (0 : Int32), vn]) d11_17 (by decide) rfl <| X_cascade_l19_p k4 hk4 NF ob i1 i2 i3 (-1 : Int32) (0 : Int32) (0 : Int32) hf
  · refine Runs.icY (pc' := 99) d11_7 (flt hc1).2.1 (by decide) <| ?_
    obtain rfl := Option.some.inj hf
    exact Runs.iloadN d11_99 rfl <| Runs.retI d11_100 rfl ⟨by decide, by decide⟩ ⟨rfl, rfl⟩
theorem X_cascade_l4_p {C : Ctx} {top : Nat} {a : Nat} {H : List (Nat × Nat × Rec)} {res : Int32 × Rec} {NF : Nat} (n : Nat) (ob : Rec) (i1 : Int32) (i2 : Int32) (i3 : Int32) (hf : X_cascade_l4 NF n ob i1 i2 i3 = some res) : Runs C B11 0 0 4 [vr a, vi i1, vi i2, vi i3, vn, vn, vn, vn] [] (top, (a, 9, ob) :: H) (Ans (some (.int res.1)) (top, (a, 9, res.2) :: H)) := by
  induction n generalizing ob i1 i2 i3 with
  | zero => cases (show (none : Option (Int32 × Rec)) = some res from hf)
  | succ n ih => exact X_cascade_w4_p (X_cascade_l4 NF n) (fun ob i1 i2 i3 h => ih _ _ _ _ h) ob i1 i2 i3 hf
def X_cascade (NF : Nat) (ob : Rec) (i1 : Int32) : Option (Int32 × Rec) :=
  X_cascade_l4 NF NF ob i1 (0 : Int32) (0 : Int32)
set_option maxRecDepth 65536 in
set_option maxHeartbeats 4000000 in
theorem X_cascade_p {C : Ctx} {top : Nat} {a : Nat} {H : List (Nat × Nat × Rec)} {res : Int32 × Rec} {NF : Nat} (ob : Rec) (i1 : Int32) (hf : X_cascade NF ob i1 = some res) : Runs C B11 0 0 0 [vr a, vi i1, vn, vn, vn, vn, vn, vn] [] (top, (a, 9, ob) :: H) (Ans (some (.int res.1)) (top, (a, 9, res.2) :: H)) := by
  delta X_cascade at hf
  exact Runs.iconst d11_0 ci_0 <| Runs.istoreN (P' := [vr a, vi i1, vi (0 : Int32), vn, vn, vn, vn, vn]) d11_1 (by decide) rfl <| Runs.iconst d11_2 ci_0 <| Runs.istoreN (P' := [vr a, vi i1, vi (0 : Int32), vi (0 : Int32), vn, vn, vn, vn]) d11_3 (by decide) rfl <| X_cascade_l4_p NF ob i1 (0 : Int32) (0 : Int32) hf
theorem X_cascade_pay {C : Ctx} {top : Nat} {a : Nat} {H : List (Nat × Nat × Rec)} {res : Int32 × Rec} {NF : Nat} {ob : Rec} {i1 : Int32} (hf : X_cascade NF ob i1 = some res) : Pays C B11 [.ref a, .int i1] (top, (a, 9, ob) :: H) (Ans (some (.int res.1)) (top, (a, 9, res.2) :: H)) :=
  Pays.of pnK (Nat.le_of_ble_eq_true rfl) (P := [vr a, vi i1, vn, vn, vn, vn, vn, vn]) 6 rfl (X_cascade_p ob i1 hf)
def X_receive (NF : Nat) (ob : Rec) (i1 : Int32) (i2 : Int32) (i3 : Int32) : Option (Int32 × Rec) :=
  (X_validProc ob i1).bind fun r1 =>
  if r1 = (0 : Int32) then
    some ((-1 : Int32), ob)
  else
    (X_exists ob i2 i3).bind fun r4 =>
    if r4 = (0 : Int32) then
      some ((-1 : Int32), ob)
    else
      chk (8 : Int32) i1 <|
      if (gA ob 1 i1) = (0 : Int32) then
        (X_copyIndex ob i2 i3 i1).bind fun r9 =>
        chk (512 : Int32) r9 <|
        if (gA ob 5 r9) = (0 : Int32) then
          some ((-4 : Int32), ob)
        else
          chk (512 : Int32) r9 <|
          chk (512 : Int32) r9 <|
          (X_stateIndex (sA ob 5 r9 ((gA ob 5 r9) - (1 : Int32))) i1 i2 i3).bind fun r15 =>
          chk (512 : Int32) r15 <|
          if (gA ob 3 r15) = (0 : Int32) then
            chk (512 : Int32) r15 <|
            bind2 (X_cascade NF (sA (sA ob 5 r9 ((gA ob 5 r9) - (1 : Int32))) 3 r15 (1 : Int32)) i1) fun r20 q21 =>
            some (r20, q21)
          else
            some ((-5 : Int32), (sA ob 5 r9 ((gA ob 5 r9) - (1 : Int32))))
      else
        some ((-2 : Int32), ob)
set_option maxRecDepth 65536 in
set_option maxHeartbeats 4000000 in
theorem X_receive_p {C : Ctx} {top : Nat} {a : Nat} {H : List (Nat × Nat × Rec)} {res : Int32 × Rec} {NF : Nat} (ob : Rec) (i1 : Int32) (i2 : Int32) (i3 : Int32) (hf : X_receive NF ob i1 i2 i3 = some res) : Runs C B8 0 0 0 [vr a, vi i1, vi i2, vi i3, vn, vn] [] (top, (a, 9, ob) :: H) (Ans (some (.int res.1)) (top, (a, 9, res.2) :: H)) := by
  delta X_receive at hf
  refine Runs.aloadN d8_0 rfl <| Runs.iloadN d8_1 rfl <| ?_
  refine bind_el hf fun r1 hg2 hf => ?_
  refine Runs.callP (N := B3) (W := 0) (as := [.int i1]) (S' := []) d8_2 w38 w39 w40 rfl cw3 ar3 rk8_3_0 (by decide) rfl rfl (X_validProc_pay hg2) <| ans1 <| ?_
  refine ite_el hf (fun hc3 hf => ?_) (fun hc3 hf => ?_)
  · refine Runs.ifY (pc' := 17) d8_5 (teq hc3).1 (by decide) <| ?_
    obtain rfl := Option.some.inj hf
    exact Runs.iconst d8_17 ci_m1 <| Runs.retI d8_18 rfl ⟨by decide, by decide⟩ ⟨rfl, rfl⟩
  · refine Runs.ifN d8_5 (feq hc3).1 <| ?_
    refine Runs.aloadN d8_8 rfl <| Runs.iloadN d8_9 rfl <| Runs.iloadN d8_10 rfl <| ?_
    refine bind_el hf fun r4 hg5 hf => ?_
    refine Runs.callP (N := B9) (W := 0) (as := [.int i2, .int i3]) (S' := []) d8_11 w63 w64 w65 rfl cw9 ar9 rk8_9_0 (by decide) rfl rfl (X_exists_pay hg5) <| ans1 <| ?_
    refine ite_el hf (fun hc6 hf => ?_) (fun hc6 hf => ?_)
    · refine Runs.ifN d8_14 (teq hc6).2 <| ?_
      obtain rfl := Option.some.inj hf
      exact Runs.iconst d8_17 ci_m1 <| Runs.retI d8_18 rfl ⟨by decide, by decide⟩ ⟨rfl, rfl⟩
    · refine Runs.ifY (pc' := 19) d8_14 (feq hc6).2 (by decide) <| ?_
      refine Runs.aloadN d8_19 rfl <| Runs.getA d8_20 fA_1 w13 (by decide) <| Runs.iloadN d8_23 rfl <| ?_
      refine chk_el hf fun hi7 hf => ?_
      refine Runs.baloadA d8_24 fA_1 (by decide) hi7 <| ?_
      refine ite_el hf (fun hc8 hf => ?_) (fun hc8 hf => ?_)
      · refine Runs.ifY (pc' := 31) d8_25 (teq hc8).1 (by decide) <| ?_
        refine Runs.aloadN d8_31 rfl <| Runs.iloadN d8_32 rfl <| Runs.iloadN d8_33 rfl <| Runs.iloadN d8_34 rfl <| ?_
        refine bind_el hf fun r9 hg10 hf => ?_
        refine Runs.callP (N := B10) (W := 0) (as := [.int i2, .int i3, .int i1]) (S' := []) d8_35 w67 w68 w69 rfl cw10 ar10 rk8_10_0 (by decide) rfl rfl (X_copyIndex_pay hg10) <| ans1 <| Runs.istore (P' := [vr a, vi i1, vi i2, vi i3, vi r9, vn]) d8_38 (by decide) rfl <| Runs.aloadN d8_40 rfl <| Runs.getA d8_41 fA_5 w21 (by decide) <| Runs.iload d8_44 rfl <| ?_
        refine chk_el hf fun hi11 hf => ?_
        refine Runs.ialoadA d8_46 fA_5 (by decide) hi11 <| ?_
        refine ite_el hf (fun hc12 hf => ?_) (fun hc12 hf => ?_)
        · refine Runs.ifN d8_47 (teq hc12).2 <| ?_
          obtain rfl := Option.some.inj hf
          exact Runs.bipush d8_50 cb_m4 <| Runs.retI d8_52 rfl ⟨by decide, by decide⟩ ⟨rfl, rfl⟩
        · refine Runs.ifY (pc' := 53) d8_47 (feq hc12).2 (by decide) <| ?_
          refine Runs.aloadN d8_53 rfl <| Runs.getA d8_54 fA_5 w21 (by decide) <| Runs.iload d8_57 rfl <| Runs.aloadN d8_59 rfl <| Runs.getA d8_60 fA_5 w21 (by decide) <| Runs.iload d8_63 rfl <| ?_
          refine chk_el hf fun hi13 hf => ?_
          refine Runs.ialoadA d8_65 fA_5 (by decide) hi13 <| Runs.iconst d8_66 ci_1 <| Runs.isub d8_67 <| ?_
          refine chk_el hf fun hi14 hf => ?_
          refine Runs.iastoreA d8_68 fA_5 (by decide) hi14 <| Runs.aloadN d8_69 rfl <| Runs.iloadN d8_70 rfl <| Runs.iloadN d8_71 rfl <| Runs.iloadN d8_72 rfl <| ?_
          refine bind_el hf fun r15 hg16 hf => ?_
          refine Runs.callP (N := B6) (W := 0) (as := [.int i1, .int i2, .int i3]) (S' := []) d8_73 w50 w51 w52 rfl cw6 ar6 rk8_6_0 (by decide) rfl rfl (X_stateIndex_pay hg16) <| ans1 <| Runs.istore (P' := [vr a, vi i1, vi i2, vi i3, vi r9, vi r15]) d8_76 (by decide) rfl <| Runs.aloadN d8_78 rfl <| Runs.getA d8_79 fA_3 w17 (by decide) <| Runs.iload d8_82 rfl <| ?_
          refine chk_el hf fun hi17 hf => ?_
          refine Runs.ialoadA d8_84 fA_3 (by decide) hi17 <| ?_
          refine ite_el hf (fun hc18 hf => ?_) (fun hc18 hf => ?_)
          · refine Runs.ifY (pc' := 91) d8_85 (teq hc18).1 (by decide) <| ?_
            refine Runs.aloadN d8_91 rfl <| Runs.getA d8_92 fA_3 w17 (by decide) <| Runs.iload d8_95 rfl <| Runs.iconst d8_97 ci_1 <| ?_
            refine chk_el hf fun hi19 hf => ?_
            refine Runs.iastoreA d8_98 fA_3 (by decide) hi19 <| Runs.aloadN d8_99 rfl <| Runs.iloadN d8_100 rfl <| ?_
            refine bind2_el hf fun r20 q21 hg22 hf => ?_
            obtain rfl := Option.some.inj hf
            exact Runs.callP (N := B11) (W := 0) (as := [.int i1]) (S' := []) d8_101 w71 w72 w73 rfl cw11 ar11 rk8_11_0 (by decide) rfl rfl (X_cascade_pay hg22) <| ans1 <| Runs.retI d8_104 rfl ⟨by decide, by decide⟩ ⟨rfl, rfl⟩
          · refine Runs.ifN d8_85 (feq hc18).1 <| ?_
            obtain rfl := Option.some.inj hf
            exact Runs.bipush d8_88 cb_m5 <| Runs.retI d8_90 rfl ⟨by decide, by decide⟩ ⟨rfl, rfl⟩
      · refine Runs.ifN d8_25 (feq hc8).1 <| ?_
        obtain rfl := Option.some.inj hf
        exact Runs.bipush d8_28 cb_m2 <| Runs.retI d8_30 rfl ⟨by decide, by decide⟩ ⟨rfl, rfl⟩
theorem X_receive_pay {C : Ctx} {top : Nat} {a : Nat} {H : List (Nat × Nat × Rec)} {res : Int32 × Rec} {NF : Nat} {ob : Rec} {i1 : Int32} {i2 : Int32} {i3 : Int32} (hf : X_receive NF ob i1 i2 i3 = some res) : Pays C B8 [.ref a, .int i1, .int i2, .int i3] (top, (a, 9, ob) :: H) (Ans (some (.int res.1)) (top, (a, 9, res.2) :: H)) :=
  Pays.of pnK (Nat.le_of_ble_eq_true rfl) (P := [vr a, vi i1, vi i2, vi i3, vn, vn]) 2 rfl (X_receive_p ob i1 i2 i3 hf)
def X_deliveredAt (ob : Rec) (i1 : Int32) (i2 : Int32) : Option (Int32) :=
  (X_validProc ob i1).bind fun r1 =>
  if r1 = (0 : Int32) then
    some (-1 : Int32)
  else
    if i2 < (0 : Int32) then
      some (-1 : Int32)
    else
      chk (8 : Int32) i1 <|
      if i2 < (gA ob 8 i1) then
        if i2 < (64 : Int32) then
          chk (512 : Int32) ((i1 * (64 : Int32)) + i2) <|
          some (gA ob 7 ((i1 * (64 : Int32)) + i2))
        else
          some (-1 : Int32)
      else
        some (-1 : Int32)
set_option maxRecDepth 65536 in
set_option maxHeartbeats 4000000 in
theorem X_deliveredAt_p {C : Ctx} {top : Nat} {a : Nat} {H : List (Nat × Nat × Rec)} {ob : Rec} {res : Int32} (i1 : Int32) (i2 : Int32) (hf : X_deliveredAt ob i1 i2 = some res) : Runs C B13 0 0 0 [vr a, vi i1, vi i2] [] (top, (a, 9, ob) :: H) (Ans (some (.int res)) (top, (a, 9, ob) :: H)) := by
  delta X_deliveredAt at hf
  refine Runs.aloadN d13_0 rfl <| Runs.iloadN d13_1 rfl <| ?_
  refine bind_el hf fun r1 hg2 hf => ?_
  refine Runs.callP (N := B3) (W := 0) (as := [.int i1]) (S' := []) d13_2 w38 w39 w40 rfl cw3 ar3 rk13_3_0 (by decide) rfl rfl (X_validProc_pay hg2) <| ans1 <| ?_
  refine ite_el hf (fun hc3 hf => ?_) (fun hc3 hf => ?_)
  · refine Runs.ifN d13_5 (teq hc3).2 <| ?_
    obtain rfl := Option.some.inj hf
    exact Runs.iconst d13_8 ci_m1 <| Runs.retI d13_9 rfl ⟨by decide, by decide⟩ ⟨rfl, rfl⟩
  · refine Runs.ifY (pc' := 10) d13_5 (feq hc3).2 (by decide) <| ?_
    refine Runs.iloadN d13_10 rfl <| ?_
    refine ite_el hf (fun hc4 hf => ?_) (fun hc4 hf => ?_)
    · refine Runs.ifY (pc' := 30) d13_11 (tlt hc4).1 (by decide) <| ?_
      obtain rfl := Option.some.inj hf
      exact Runs.iconst d13_30 ci_m1 <| Runs.retI d13_31 rfl ⟨by decide, by decide⟩ ⟨rfl, rfl⟩
    · refine Runs.ifN d13_11 (flt hc4).1 <| ?_
      refine Runs.iloadN d13_14 rfl <| Runs.aloadN d13_15 rfl <| Runs.getA d13_16 fA_8 w27 (by decide) <| Runs.iloadN d13_19 rfl <| ?_
      refine chk_el hf fun hi5 hf => ?_
      refine Runs.ialoadA d13_20 fA_8 (by decide) hi5 <| ?_
      refine ite_el hf (fun hc6 hf => ?_) (fun hc6 hf => ?_)
      · refine Runs.icN d13_21 (tlt hc6).2.1 <| ?_
        refine Runs.iloadN d13_24 rfl <| Runs.bipush d13_25 cb_64 <| ?_
        refine ite_el hf (fun hc7 hf => ?_) (fun hc7 hf => ?_)
        · refine Runs.icY (pc' := 32) d13_27 (tlt hc7).1 (by decide) <| ?_
          refine Runs.aloadN d13_32 rfl <| Runs.getA d13_33 fA_7 w25 (by decide) <| Runs.iloadN d13_36 rfl <| Runs.bipush d13_37 cb_64 <| Runs.imul d13_39 <| Runs.iloadN d13_40 rfl <| Runs.iadd d13_41 <| ?_
          refine chk_el hf fun hi8 hf => ?_
          obtain rfl := Option.some.inj hf
          exact Runs.ialoadA d13_42 fA_7 (by decide) hi8 <| Runs.retI d13_43 rfl ⟨by decide, by decide⟩ ⟨rfl, rfl⟩
        · refine Runs.icN d13_27 (flt hc7).1 <| ?_
          obtain rfl := Option.some.inj hf
          exact Runs.iconst d13_30 ci_m1 <| Runs.retI d13_31 rfl ⟨by decide, by decide⟩ ⟨rfl, rfl⟩
      · refine Runs.icY (pc' := 30) d13_21 (flt hc6).2.1 (by decide) <| ?_
        obtain rfl := Option.some.inj hf
        exact Runs.iconst d13_30 ci_m1 <| Runs.retI d13_31 rfl ⟨by decide, by decide⟩ ⟨rfl, rfl⟩
theorem X_deliveredAt_pay {C : Ctx} {top : Nat} {a : Nat} {H : List (Nat × Nat × Rec)} {ob : Rec} {res : Int32} {i1 : Int32} {i2 : Int32} (hf : X_deliveredAt ob i1 i2 = some res) : Pays C B13 [.ref a, .int i1, .int i2] (top, (a, 9, ob) :: H) (Ans (some (.int res)) (top, (a, 9, ob) :: H)) :=
  Pays.of pnK (Nat.le_of_ble_eq_true rfl) (P := [vr a, vi i1, vi i2]) 0 rfl (X_deliveredAt_p i1 i2 hf)
def X_stamp (ob : Rec) (i1 : Int32) (i2 : Int32) (i3 : Int32) : Option (Int32) :=
  (X_exists ob i1 i2).bind fun r1 =>
  if r1 = (0 : Int32) then
    some (-1 : Int32)
  else
    (X_validProc ob i3).bind fun r4 =>
    if r4 = (0 : Int32) then
      some (-1 : Int32)
    else
      (X_msgIndex ob i1 i2).bind fun r7 =>
      chk (512 : Int32) ((r7 * (8 : Int32)) + i3) <|
      some (gA ob 4 ((r7 * (8 : Int32)) + i3))
set_option maxRecDepth 65536 in
set_option maxHeartbeats 4000000 in
theorem X_stamp_p {C : Ctx} {top : Nat} {a : Nat} {H : List (Nat × Nat × Rec)} {ob : Rec} {res : Int32} (i1 : Int32) (i2 : Int32) (i3 : Int32) (hf : X_stamp ob i1 i2 i3 = some res) : Runs C B14 0 0 0 [vr a, vi i1, vi i2, vi i3, vn] [] (top, (a, 9, ob) :: H) (Ans (some (.int res)) (top, (a, 9, ob) :: H)) := by
  delta X_stamp at hf
  refine Runs.aloadN d14_0 rfl <| Runs.iloadN d14_1 rfl <| Runs.iloadN d14_2 rfl <| ?_
  refine bind_el hf fun r1 hg2 hf => ?_
  refine Runs.callP (N := B9) (W := 0) (as := [.int i1, .int i2]) (S' := []) d14_3 w63 w64 w65 rfl cw9 ar9 rk14_9_0 (by decide) rfl rfl (X_exists_pay hg2) <| ans1 <| ?_
  refine ite_el hf (fun hc3 hf => ?_) (fun hc3 hf => ?_)
  · refine Runs.ifY (pc' := 17) d14_6 (teq hc3).1 (by decide) <| ?_
    obtain rfl := Option.some.inj hf
    exact Runs.iconst d14_17 ci_m1 <| Runs.retI d14_18 rfl ⟨by decide, by decide⟩ ⟨rfl, rfl⟩
  · refine Runs.ifN d14_6 (feq hc3).1 <| ?_
    refine Runs.aloadN d14_9 rfl <| Runs.iloadN d14_10 rfl <| ?_
    refine bind_el hf fun r4 hg5 hf => ?_
    refine Runs.callP (N := B3) (W := 0) (as := [.int i3]) (S' := []) d14_11 w38 w39 w40 rfl cw3 ar3 rk14_3_0 (by decide) rfl rfl (X_validProc_pay hg5) <| ans1 <| ?_
    refine ite_el hf (fun hc6 hf => ?_) (fun hc6 hf => ?_)
    · refine Runs.ifN d14_14 (teq hc6).2 <| ?_
      obtain rfl := Option.some.inj hf
      exact Runs.iconst d14_17 ci_m1 <| Runs.retI d14_18 rfl ⟨by decide, by decide⟩ ⟨rfl, rfl⟩
    · refine Runs.ifY (pc' := 19) d14_14 (feq hc6).2 (by decide) <| ?_
      refine Runs.aloadN d14_19 rfl <| Runs.iloadN d14_20 rfl <| Runs.iloadN d14_21 rfl <| ?_
      refine bind_el hf fun r7 hg8 hf => ?_
      refine Runs.callP (N := B4) (W := 0) (as := [.int i1, .int i2]) (S' := []) d14_22 w42 w43 w44 rfl cw4 ar4 rk14_4_0 (by decide) rfl rfl (X_msgIndex_pay hg8) <| ans1 <| Runs.istore (P' := [vr a, vi i1, vi i2, vi i3, vi r7]) d14_25 (by decide) rfl <| Runs.aloadN d14_27 rfl <| Runs.getA d14_28 fA_4 w19 (by decide) <| Runs.iload d14_31 rfl <| Runs.bipush d14_33 cb_8 <| Runs.imul d14_35 <| Runs.iloadN d14_36 rfl <| Runs.iadd d14_37 <| ?_
      refine chk_el hf fun hi9 hf => ?_
      obtain rfl := Option.some.inj hf
      exact Runs.ialoadA d14_38 fA_4 (by decide) hi9 <| Runs.retI d14_39 rfl ⟨by decide, by decide⟩ ⟨rfl, rfl⟩
theorem X_stamp_pay {C : Ctx} {top : Nat} {a : Nat} {H : List (Nat × Nat × Rec)} {ob : Rec} {res : Int32} {i1 : Int32} {i2 : Int32} {i3 : Int32} (hf : X_stamp ob i1 i2 i3 = some res) : Pays C B14 [.ref a, .int i1, .int i2, .int i3] (top, (a, 9, ob) :: H) (Ans (some (.int res)) (top, (a, 9, ob) :: H)) :=
  Pays.of pnK (Nat.le_of_ble_eq_true rfl) (P := [vr a, vi i1, vi i2, vi i3, vn]) 1 rfl (X_stamp_p i1 i2 i3 hf)
def X_state (ob : Rec) (i1 : Int32) (i2 : Int32) (i3 : Int32) : Option (Int32) :=
  (X_validProc ob i1).bind fun r1 =>
  if r1 = (0 : Int32) then
    some (-1 : Int32)
  else
    (X_exists ob i2 i3).bind fun r4 =>
    if r4 = (0 : Int32) then
      some (-1 : Int32)
    else
      (X_stateIndex ob i1 i2 i3).bind fun r7 =>
      chk (512 : Int32) r7 <|
      some (gA ob 3 r7)
set_option maxRecDepth 65536 in
set_option maxHeartbeats 4000000 in
theorem X_state_p {C : Ctx} {top : Nat} {a : Nat} {H : List (Nat × Nat × Rec)} {ob : Rec} {res : Int32} (i1 : Int32) (i2 : Int32) (i3 : Int32) (hf : X_state ob i1 i2 i3 = some res) : Runs C B15 0 0 0 [vr a, vi i1, vi i2, vi i3, vn] [] (top, (a, 9, ob) :: H) (Ans (some (.int res)) (top, (a, 9, ob) :: H)) := by
  delta X_state at hf
  refine Runs.aloadN d15_0 rfl <| Runs.iloadN d15_1 rfl <| ?_
  refine bind_el hf fun r1 hg2 hf => ?_
  refine Runs.callP (N := B3) (W := 0) (as := [.int i1]) (S' := []) d15_2 w38 w39 w40 rfl cw3 ar3 rk15_3_0 (by decide) rfl rfl (X_validProc_pay hg2) <| ans1 <| ?_
  refine ite_el hf (fun hc3 hf => ?_) (fun hc3 hf => ?_)
  · refine Runs.ifY (pc' := 17) d15_5 (teq hc3).1 (by decide) <| ?_
    obtain rfl := Option.some.inj hf
    exact Runs.iconst d15_17 ci_m1 <| Runs.retI d15_18 rfl ⟨by decide, by decide⟩ ⟨rfl, rfl⟩
  · refine Runs.ifN d15_5 (feq hc3).1 <| ?_
    refine Runs.aloadN d15_8 rfl <| Runs.iloadN d15_9 rfl <| Runs.iloadN d15_10 rfl <| ?_
    refine bind_el hf fun r4 hg5 hf => ?_
    refine Runs.callP (N := B9) (W := 0) (as := [.int i2, .int i3]) (S' := []) d15_11 w63 w64 w65 rfl cw9 ar9 rk15_9_0 (by decide) rfl rfl (X_exists_pay hg5) <| ans1 <| ?_
    refine ite_el hf (fun hc6 hf => ?_) (fun hc6 hf => ?_)
    · refine Runs.ifN d15_14 (teq hc6).2 <| ?_
      obtain rfl := Option.some.inj hf
      exact Runs.iconst d15_17 ci_m1 <| Runs.retI d15_18 rfl ⟨by decide, by decide⟩ ⟨rfl, rfl⟩
    · refine Runs.ifY (pc' := 19) d15_14 (feq hc6).2 (by decide) <| ?_
      refine Runs.aloadN d15_19 rfl <| Runs.iloadN d15_20 rfl <| Runs.iloadN d15_21 rfl <| Runs.iloadN d15_22 rfl <| ?_
      refine bind_el hf fun r7 hg8 hf => ?_
      refine Runs.callP (N := B6) (W := 0) (as := [.int i1, .int i2, .int i3]) (S' := []) d15_23 w50 w51 w52 rfl cw6 ar6 rk15_6_0 (by decide) rfl rfl (X_stateIndex_pay hg8) <| ans1 <| Runs.istore (P' := [vr a, vi i1, vi i2, vi i3, vi r7]) d15_26 (by decide) rfl <| Runs.aloadN d15_28 rfl <| Runs.getA d15_29 fA_3 w17 (by decide) <| Runs.iload d15_32 rfl <| ?_
      refine chk_el hf fun hi9 hf => ?_
      obtain rfl := Option.some.inj hf
      exact Runs.ialoadA d15_34 fA_3 (by decide) hi9 <| Runs.retI d15_35 rfl ⟨by decide, by decide⟩ ⟨rfl, rfl⟩
theorem X_state_pay {C : Ctx} {top : Nat} {a : Nat} {H : List (Nat × Nat × Rec)} {ob : Rec} {res : Int32} {i1 : Int32} {i2 : Int32} {i3 : Int32} (hf : X_state ob i1 i2 i3 = some res) : Pays C B15 [.ref a, .int i1, .int i2, .int i3] (top, (a, 9, ob) :: H) (Ans (some (.int res)) (top, (a, 9, ob) :: H)) :=
  Pays.of pnK (Nat.le_of_ble_eq_true rfl) (P := [vr a, vi i1, vi i2, vi i3, vn]) 1 rfl (X_state_p i1 i2 i3 hf)
def X_delivered (ob : Rec) (i1 : Int32) (i2 : Int32) : Option (Int32) :=
  (X_validProc ob i1).bind fun r1 =>
  if r1 = (0 : Int32) then
    some (-1 : Int32)
  else
    (X_validProc ob i2).bind fun r4 =>
    if r4 = (0 : Int32) then
      some (-1 : Int32)
    else
      chk (64 : Int32) ((i1 * (8 : Int32)) + i2) <|
      some (gA ob 2 ((i1 * (8 : Int32)) + i2))
set_option maxRecDepth 65536 in
set_option maxHeartbeats 4000000 in
theorem X_delivered_p {C : Ctx} {top : Nat} {a : Nat} {H : List (Nat × Nat × Rec)} {ob : Rec} {res : Int32} (i1 : Int32) (i2 : Int32) (hf : X_delivered ob i1 i2 = some res) : Runs C B16 0 0 0 [vr a, vi i1, vi i2] [] (top, (a, 9, ob) :: H) (Ans (some (.int res)) (top, (a, 9, ob) :: H)) := by
  delta X_delivered at hf
  refine Runs.aloadN d16_0 rfl <| Runs.iloadN d16_1 rfl <| ?_
  refine bind_el hf fun r1 hg2 hf => ?_
  refine Runs.callP (N := B3) (W := 0) (as := [.int i1]) (S' := []) d16_2 w38 w39 w40 rfl cw3 ar3 rk16_3_0 (by decide) rfl rfl (X_validProc_pay hg2) <| ans1 <| ?_
  refine ite_el hf (fun hc3 hf => ?_) (fun hc3 hf => ?_)
  · refine Runs.ifY (pc' := 16) d16_5 (teq hc3).1 (by decide) <| ?_
    obtain rfl := Option.some.inj hf
    exact Runs.iconst d16_16 ci_m1 <| Runs.retI d16_17 rfl ⟨by decide, by decide⟩ ⟨rfl, rfl⟩
  · refine Runs.ifN d16_5 (feq hc3).1 <| ?_
    refine Runs.aloadN d16_8 rfl <| Runs.iloadN d16_9 rfl <| ?_
    refine bind_el hf fun r4 hg5 hf => ?_
    refine Runs.callP (N := B3) (W := 0) (as := [.int i2]) (S' := []) d16_10 w38 w39 w40 rfl cw3 ar3 rk16_3_0 (by decide) rfl rfl (X_validProc_pay hg5) <| ans1 <| ?_
    refine ite_el hf (fun hc6 hf => ?_) (fun hc6 hf => ?_)
    · refine Runs.ifN d16_13 (teq hc6).2 <| ?_
      obtain rfl := Option.some.inj hf
      exact Runs.iconst d16_16 ci_m1 <| Runs.retI d16_17 rfl ⟨by decide, by decide⟩ ⟨rfl, rfl⟩
    · refine Runs.ifY (pc' := 18) d16_13 (feq hc6).2 (by decide) <| ?_
      refine Runs.aloadN d16_18 rfl <| Runs.getA d16_19 fA_2 w15 (by decide) <| Runs.iloadN d16_22 rfl <| Runs.bipush d16_23 cb_8 <| Runs.imul d16_25 <| Runs.iloadN d16_26 rfl <| Runs.iadd d16_27 <| ?_
      refine chk_el hf fun hi7 hf => ?_
      obtain rfl := Option.some.inj hf
      exact Runs.ialoadA d16_28 fA_2 (by decide) hi7 <| Runs.retI d16_29 rfl ⟨by decide, by decide⟩ ⟨rfl, rfl⟩
theorem X_delivered_pay {C : Ctx} {top : Nat} {a : Nat} {H : List (Nat × Nat × Rec)} {ob : Rec} {res : Int32} {i1 : Int32} {i2 : Int32} (hf : X_delivered ob i1 i2 = some res) : Pays C B16 [.ref a, .int i1, .int i2] (top, (a, 9, ob) :: H) (Ans (some (.int res)) (top, (a, 9, ob) :: H)) :=
  Pays.of pnK (Nat.le_of_ble_eq_true rfl) (P := [vr a, vi i1, vi i2]) 0 rfl (X_delivered_p i1 i2 hf)
def X_known (ob : Rec) (i1 : Int32) (i2 : Int32) (i3 : Int32) : Option (Int32) :=
  (X_validProc ob i1).bind fun r1 =>
  if r1 = (0 : Int32) then
    some (-1 : Int32)
  else
    (X_validProc ob i2).bind fun r4 =>
    if r4 = (0 : Int32) then
      some (-1 : Int32)
    else
      (X_validProc ob i3).bind fun r7 =>
      if r7 = (0 : Int32) then
        some (-1 : Int32)
      else
        (X_knownIndex ob i1 i2 i3).bind fun r10 =>
        chk (512 : Int32) r10 <|
        some (gA ob 6 r10)
set_option maxRecDepth 65536 in
set_option maxHeartbeats 4000000 in
theorem X_known_p {C : Ctx} {top : Nat} {a : Nat} {H : List (Nat × Nat × Rec)} {ob : Rec} {res : Int32} (i1 : Int32) (i2 : Int32) (i3 : Int32) (hf : X_known ob i1 i2 i3 = some res) : Runs C B17 0 0 0 [vr a, vi i1, vi i2, vi i3, vn] [] (top, (a, 9, ob) :: H) (Ans (some (.int res)) (top, (a, 9, ob) :: H)) := by
  delta X_known at hf
  refine Runs.aloadN d17_0 rfl <| Runs.iloadN d17_1 rfl <| ?_
  refine bind_el hf fun r1 hg2 hf => ?_
  refine Runs.callP (N := B3) (W := 0) (as := [.int i1]) (S' := []) d17_2 w38 w39 w40 rfl cw3 ar3 rk17_3_0 (by decide) rfl rfl (X_validProc_pay hg2) <| ans1 <| ?_
  refine ite_el hf (fun hc3 hf => ?_) (fun hc3 hf => ?_)
  · refine Runs.ifY (pc' := 24) d17_5 (teq hc3).1 (by decide) <| ?_
    obtain rfl := Option.some.inj hf
    exact Runs.iconst d17_24 ci_m1 <| Runs.retI d17_25 rfl ⟨by decide, by decide⟩ ⟨rfl, rfl⟩
  · refine Runs.ifN d17_5 (feq hc3).1 <| ?_
    refine Runs.aloadN d17_8 rfl <| Runs.iloadN d17_9 rfl <| ?_
    refine bind_el hf fun r4 hg5 hf => ?_
    refine Runs.callP (N := B3) (W := 0) (as := [.int i2]) (S' := []) d17_10 w38 w39 w40 rfl cw3 ar3 rk17_3_0 (by decide) rfl rfl (X_validProc_pay hg5) <| ans1 <| ?_
    refine ite_el hf (fun hc6 hf => ?_) (fun hc6 hf => ?_)
    · refine Runs.ifY (pc' := 24) d17_13 (teq hc6).1 (by decide) <| ?_
      obtain rfl := Option.some.inj hf
      exact Runs.iconst d17_24 ci_m1 <| Runs.retI d17_25 rfl ⟨by decide, by decide⟩ ⟨rfl, rfl⟩
    · refine Runs.ifN d17_13 (feq hc6).1 <| ?_
      refine Runs.aloadN d17_16 rfl <| Runs.iloadN d17_17 rfl <| ?_
      refine bind_el hf fun r7 hg8 hf => ?_
      refine Runs.callP (N := B3) (W := 0) (as := [.int i3]) (S' := []) d17_18 w38 w39 w40 rfl cw3 ar3 rk17_3_0 (by decide) rfl rfl (X_validProc_pay hg8) <| ans1 <| ?_
      refine ite_el hf (fun hc9 hf => ?_) (fun hc9 hf => ?_)
      · refine Runs.ifN d17_21 (teq hc9).2 <| ?_
        obtain rfl := Option.some.inj hf
        exact Runs.iconst d17_24 ci_m1 <| Runs.retI d17_25 rfl ⟨by decide, by decide⟩ ⟨rfl, rfl⟩
      · refine Runs.ifY (pc' := 26) d17_21 (feq hc9).2 (by decide) <| ?_
        refine Runs.aloadN d17_26 rfl <| Runs.iloadN d17_27 rfl <| Runs.iloadN d17_28 rfl <| Runs.iloadN d17_29 rfl <| ?_
        refine bind_el hf fun r10 hg11 hf => ?_
        refine Runs.callP (N := B7) (W := 0) (as := [.int i1, .int i2, .int i3]) (S' := []) d17_30 w54 w55 w56 rfl cw7 ar7 rk17_7_0 (by decide) rfl rfl (X_knownIndex_pay hg11) <| ans1 <| Runs.istore (P' := [vr a, vi i1, vi i2, vi i3, vi r10]) d17_33 (by decide) rfl <| Runs.aloadN d17_35 rfl <| Runs.getA d17_36 fA_6 w23 (by decide) <| Runs.iload d17_39 rfl <| ?_
        refine chk_el hf fun hi12 hf => ?_
        obtain rfl := Option.some.inj hf
        exact Runs.ialoadA d17_41 fA_6 (by decide) hi12 <| Runs.retI d17_42 rfl ⟨by decide, by decide⟩ ⟨rfl, rfl⟩
theorem X_known_pay {C : Ctx} {top : Nat} {a : Nat} {H : List (Nat × Nat × Rec)} {ob : Rec} {res : Int32} {i1 : Int32} {i2 : Int32} {i3 : Int32} (hf : X_known ob i1 i2 i3 = some res) : Pays C B17 [.ref a, .int i1, .int i2, .int i3] (top, (a, 9, ob) :: H) (Ans (some (.int res)) (top, (a, 9, ob) :: H)) :=
  Pays.of pnK (Nat.le_of_ble_eq_true rfl) (P := [vr a, vi i1, vi i2, vi i3, vn]) 1 rfl (X_known_p i1 i2 i3 hf)
def X_copies (ob : Rec) (i1 : Int32) (i2 : Int32) (i3 : Int32) : Option (Int32) :=
  (X_exists ob i1 i2).bind fun r1 =>
  if r1 = (0 : Int32) then
    some (-1 : Int32)
  else
    (X_validProc ob i3).bind fun r4 =>
    if r4 = (0 : Int32) then
      some (-1 : Int32)
    else
      (X_copyIndex ob i1 i2 i3).bind fun r7 =>
      chk (512 : Int32) r7 <|
      some (gA ob 5 r7)
set_option maxRecDepth 65536 in
set_option maxHeartbeats 4000000 in
theorem X_copies_p {C : Ctx} {top : Nat} {a : Nat} {H : List (Nat × Nat × Rec)} {ob : Rec} {res : Int32} (i1 : Int32) (i2 : Int32) (i3 : Int32) (hf : X_copies ob i1 i2 i3 = some res) : Runs C B18 0 0 0 [vr a, vi i1, vi i2, vi i3, vn] [] (top, (a, 9, ob) :: H) (Ans (some (.int res)) (top, (a, 9, ob) :: H)) := by
  delta X_copies at hf
  refine Runs.aloadN d18_0 rfl <| Runs.iloadN d18_1 rfl <| Runs.iloadN d18_2 rfl <| ?_
  refine bind_el hf fun r1 hg2 hf => ?_
  refine Runs.callP (N := B9) (W := 0) (as := [.int i1, .int i2]) (S' := []) d18_3 w63 w64 w65 rfl cw9 ar9 rk18_9_0 (by decide) rfl rfl (X_exists_pay hg2) <| ans1 <| ?_
  refine ite_el hf (fun hc3 hf => ?_) (fun hc3 hf => ?_)
  · refine Runs.ifY (pc' := 17) d18_6 (teq hc3).1 (by decide) <| ?_
    obtain rfl := Option.some.inj hf
    exact Runs.iconst d18_17 ci_m1 <| Runs.retI d18_18 rfl ⟨by decide, by decide⟩ ⟨rfl, rfl⟩
  · refine Runs.ifN d18_6 (feq hc3).1 <| ?_
    refine Runs.aloadN d18_9 rfl <| Runs.iloadN d18_10 rfl <| ?_
    refine bind_el hf fun r4 hg5 hf => ?_
    refine Runs.callP (N := B3) (W := 0) (as := [.int i3]) (S' := []) d18_11 w38 w39 w40 rfl cw3 ar3 rk18_3_0 (by decide) rfl rfl (X_validProc_pay hg5) <| ans1 <| ?_
    refine ite_el hf (fun hc6 hf => ?_) (fun hc6 hf => ?_)
    · refine Runs.ifN d18_14 (teq hc6).2 <| ?_
      obtain rfl := Option.some.inj hf
      exact Runs.iconst d18_17 ci_m1 <| Runs.retI d18_18 rfl ⟨by decide, by decide⟩ ⟨rfl, rfl⟩
    · refine Runs.ifY (pc' := 19) d18_14 (feq hc6).2 (by decide) <| ?_
      refine Runs.aloadN d18_19 rfl <| Runs.iloadN d18_20 rfl <| Runs.iloadN d18_21 rfl <| Runs.iloadN d18_22 rfl <| ?_
      refine bind_el hf fun r7 hg8 hf => ?_
      refine Runs.callP (N := B10) (W := 0) (as := [.int i1, .int i2, .int i3]) (S' := []) d18_23 w67 w68 w69 rfl cw10 ar10 rk18_10_0 (by decide) rfl rfl (X_copyIndex_pay hg8) <| ans1 <| Runs.istore (P' := [vr a, vi i1, vi i2, vi i3, vi r7]) d18_26 (by decide) rfl <| Runs.aloadN d18_28 rfl <| Runs.getA d18_29 fA_5 w21 (by decide) <| Runs.iload d18_32 rfl <| ?_
      refine chk_el hf fun hi9 hf => ?_
      obtain rfl := Option.some.inj hf
      exact Runs.ialoadA d18_34 fA_5 (by decide) hi9 <| Runs.retI d18_35 rfl ⟨by decide, by decide⟩ ⟨rfl, rfl⟩
theorem X_copies_pay {C : Ctx} {top : Nat} {a : Nat} {H : List (Nat × Nat × Rec)} {ob : Rec} {res : Int32} {i1 : Int32} {i2 : Int32} {i3 : Int32} (hf : X_copies ob i1 i2 i3 = some res) : Pays C B18 [.ref a, .int i1, .int i2, .int i3] (top, (a, 9, ob) :: H) (Ans (some (.int res)) (top, (a, 9, ob) :: H)) :=
  Pays.of pnK (Nat.le_of_ble_eq_true rfl) (P := [vr a, vi i1, vi i2, vi i3, vn]) 1 rfl (X_copies_p i1 i2 i3 hf)
def L_law_b72 (NF : Nat) (ob : Rec) (i5 : Int32) (i7 : Int32) (t0 : Int32) : Option (Int32) :=
  bind2 (X_broadcast NF ob i5) fun r1 q2 =>
  if r1 = (1 : Int32) then
    bind2 (X_receive NF q2 i7 i5 (1 : Int32)) fun r5 q6 =>
    if r5 = (1 : Int32) then
      (X_deliveredAt q6 i7 (0 : Int32)).bind fun r9 =>
      if r9 = ((i5 * (16 : Int32)) + (1 : Int32)) then
        bind2 (X_broadcast NF q6 i7) fun r12 q13 =>
        if r12 = (1 : Int32) then
          (X_deliveredAt q13 i7 (1 : Int32)).bind fun r16 =>
          if r16 = ((i7 * (16 : Int32)) + (1 : Int32)) then
            (X_stamp q13 i7 (1 : Int32) i5).bind fun r19 =>
            if r19 = (1 : Int32) then
              (X_stamp q13 i7 (1 : Int32) i7).bind fun r22 =>
              if r22 = (1 : Int32) then
                (X_stamp q13 i7 (1 : Int32) ((i5 + t0) % (8 : Int32))).bind fun r25 =>
                if r25 = (0 : Int32) then
                  bind2 (X_receive NF q13 ((i5 + t0) % (8 : Int32)) i7 (1 : Int32)) fun r28 q29 =>
                  if r28 = (0 : Int32) then
                    (X_state q29 ((i5 + t0) % (8 : Int32)) i7 (1 : Int32)).bind fun r32 =>
                    if r32 = (1 : Int32) then
                      (X_delivered q29 ((i5 + t0) % (8 : Int32)) i7).bind fun r35 =>
                      if r35 = (0 : Int32) then
                        (X_deliveredAt q29 ((i5 + t0) % (8 : Int32)) (0 : Int32)).bind fun r38 =>
                        if r38 = (-1 : Int32) then
                          bind2 (X_receive NF q29 ((i5 + t0) % (8 : Int32)) i5 (1 : Int32)) fun r41 q42 =>
                          if r41 = (2 : Int32) then
                            (X_deliveredAt q42 ((i5 + t0) % (8 : Int32)) (0 : Int32)).bind fun r45 =>
                            if r45 = ((i5 * (16 : Int32)) + (1 : Int32)) then
                              (X_deliveredAt q42 ((i5 + t0) % (8 : Int32)) (1 : Int32)).bind fun r48 =>
                              if r48 = ((i7 * (16 : Int32)) + (1 : Int32)) then
                                (X_deliveredAt q42 ((i5 + t0) % (8 : Int32)) (2 : Int32)).bind fun r51 =>
                                if r51 = (-1 : Int32) then
                                  (X_delivered q42 ((i5 + t0) % (8 : Int32)) i5).bind fun r54 =>
                                  if r54 = (1 : Int32) then
                                    (X_delivered q42 ((i5 + t0) % (8 : Int32)) i7).bind fun r57 =>
                                    if r57 = (1 : Int32) then
                                      (X_state q42 ((i5 + t0) % (8 : Int32)) i5 (1 : Int32)).bind fun r60 =>
                                      if r60 = (2 : Int32) then
                                        (X_state q42 ((i5 + t0) % (8 : Int32)) i7 (1 : Int32)).bind fun r63 =>
                                        if r63 = (2 : Int32) then
                                          (X_known q42 ((i5 + t0) % (8 : Int32)) ((i5 + t0) % (8 : Int32)) i5).bind fun r66 =>
                                          if r66 = (1 : Int32) then
                                            (X_known q42 ((i5 + t0) % (8 : Int32)) ((i5 + t0) % (8 : Int32)) i7).bind fun r69 =>
                                            if r69 = (1 : Int32) then
                                              (X_copies q42 i5 (1 : Int32) ((i5 + t0) % (8 : Int32))).bind fun r72 =>
                                              if r72 = (0 : Int32) then
                                                (X_copies q42 i7 (1 : Int32) ((i5 + t0) % (8 : Int32))).bind fun r75 =>
                                                if r75 = (0 : Int32) then
                                                  bind2 (X_receive NF q42 ((i5 + t0) % (8 : Int32)) i5 (1 : Int32)) fun r78 q79 =>
                                                  if r78 = (-4 : Int32) then
                                                    some (1 : Int32)
                                                  else
                                                    some (0 : Int32)
                                                else
                                                  some (0 : Int32)
                                              else
                                                some (0 : Int32)
                                            else
                                              some (0 : Int32)
                                          else
                                            some (0 : Int32)
                                        else
                                          some (0 : Int32)
                                      else
                                        some (0 : Int32)
                                    else
                                      some (0 : Int32)
                                  else
                                    some (0 : Int32)
                                else
                                  some (0 : Int32)
                              else
                                some (0 : Int32)
                            else
                              some (0 : Int32)
                          else
                            some (0 : Int32)
                        else
                          some (0 : Int32)
                      else
                        some (0 : Int32)
                    else
                      some (0 : Int32)
                  else
                    some (0 : Int32)
                else
                  some (0 : Int32)
              else
                some (0 : Int32)
            else
              some (0 : Int32)
          else
            some (0 : Int32)
        else
          some (0 : Int32)
      else
        some (0 : Int32)
    else
      some (0 : Int32)
  else
    some (0 : Int32)
set_option maxRecDepth 65536 in
set_option maxHeartbeats 4000000 in
theorem L_law_b72_p {C : Ctx} {res : Int32} {NF : Nat} (ob : Rec) (i5 : Int32) (i7 : Int32) (t0 : Int32) (hf : L_law_b72 NF ob i5 i7 t0 = some res) : Runs C B0 10 2659 72 [vn, vn, vn, vn, vr C.2.2.1, vi i5, vn, vi i7, vn, vn, vn, vn, vn] [.int t0] (C.2.2.1 + 1 + 9, (C.2.2.1, 9, ob) :: []) (fun v _ => v = (some (.int res))) := by
  delta L_law_b72 at hf
  refine Runs.istore (P' := [vn, vn, vn, vn, vr C.2.2.1, vi i5, vn, vi i7, vn, vi t0, vn, vn, vn]) d0_72 (by decide) rfl <| Runs.iload d0_74 rfl <| Runs.iload d0_76 rfl <| Runs.iadd d0_78 <| Runs.bipush d0_79 cb_8 <| Runs.irem d0_81 (by decide) <| Runs.istore (P' := [vn, vn, vn, vn, vr C.2.2.1, vi i5, vn, vi i7, vn, vi t0, vi ((i5 + t0) % (8 : Int32)), vn, vn]) d0_82 (by decide) rfl <| Runs.iload d0_84 rfl <| Runs.bipush d0_86 cb_16 <| Runs.imul d0_88 <| Runs.iconst d0_89 ci_1 <| Runs.iadd d0_90 <| ?_
  refine Runs.istore (P' := [vn, vn, vn, vn, vr C.2.2.1, vi i5, vn, vi i7, vn, vi t0, vi ((i5 + t0) % (8 : Int32)), vi ((i5 * (16 : Int32)) + (1 : Int32)), vn]) d0_91 (by decide) rfl <| Runs.iload d0_93 rfl <| Runs.bipush d0_95 cb_16 <| Runs.imul d0_97 <| Runs.iconst d0_98 ci_1 <| Runs.iadd d0_99 <| Runs.istore (P' := [vn, vn, vn, vn, vr C.2.2.1, vi i5, vn, vi i7, vn, vi t0, vi ((i5 + t0) % (8 : Int32)), vi ((i5 * (16 : Int32)) + (1 : Int32)), vi ((i7 * (16 : Int32)) + (1 : Int32))]) d0_100 (by decide) rfl <| Runs.aload d0_102 rfl <| Runs.iload d0_104 rfl <| ?_
  refine bind2_el hf fun r1 q2 hg3 hf => ?_
  refine Runs.callV (N := B2) (W := 0) (as := [.int i5]) (S' := []) d0_106 w33 w34 w35 w36 cw2 ar2 rk0_2_0 (by decide) rfl rfl (X_broadcast_pay hg3) <| ans1 <| Runs.iconst d0_109 ci_1 <| ?_
  refine ite_el hf (fun hc4 hf => ?_) (fun hc4 hf => ?_)
  · refine Runs.icY (pc' := 115) d0_110 (teq hc4).1 (by decide) <| ?_
    refine Runs.aload d0_115 rfl <| Runs.iload d0_117 rfl <| Runs.iload d0_119 rfl <| Runs.iconst d0_121 ci_1 <| ?_
    refine bind2_el hf fun r5 q6 hg7 hf => ?_
    refine Runs.callV (N := B8) (W := 0) (as := [.int i7, .int i5, .int (1 : Int32)]) (S' := []) d0_122 w58 w59 w60 w61 cw8 ar8 rk0_8_0 (by decide) rfl rfl (X_receive_pay hg7) <| ans1 <| Runs.iconst d0_125 ci_1 <| ?_
    refine ite_el hf (fun hc8 hf => ?_) (fun hc8 hf => ?_)
    · refine Runs.icY (pc' := 131) d0_126 (teq hc8).1 (by decide) <| ?_
      refine Runs.aload d0_131 rfl <| Runs.iload d0_133 rfl <| Runs.iconst d0_135 ci_0 <| ?_
      refine bind_el hf fun r9 hg10 hf => ?_
      refine Runs.callV (N := B13) (W := 0) (as := [.int i7, .int (0 : Int32)]) (S' := []) d0_136 w79 w80 w81 w82 cw13 ar13 rk0_13_0 (by decide) rfl rfl (X_deliveredAt_pay hg10) <| ans1 <| Runs.iload d0_139 rfl <| ?_
      refine ite_el hf (fun hc11 hf => ?_) (fun hc11 hf => ?_)
      · refine Runs.icY (pc' := 146) d0_141 (teq hc11).1 (by decide) <| ?_
        refine Runs.aload d0_146 rfl <| Runs.iload d0_148 rfl <| ?_
        refine bind2_el hf fun r12 q13 hg14 hf => ?_
        refine Runs.callV (N := B2) (W := 0) (as := [.int i7]) (S' := []) d0_150 w33 w34 w35 w36 cw2 ar2 rk0_2_0 (by decide) rfl rfl (X_broadcast_pay hg14) <| ans1 <| Runs.iconst d0_153 ci_1 <| ?_
        refine ite_el hf (fun hc15 hf => ?_) (fun hc15 hf => ?_)
        · refine Runs.icY (pc' := 159) d0_154 (teq hc15).1 (by decide) <| ?_
          refine Runs.aload d0_159 rfl <| Runs.iload d0_161 rfl <| Runs.iconst d0_163 ci_1 <| ?_
          refine bind_el hf fun r16 hg17 hf => ?_
          refine Runs.callV (N := B13) (W := 0) (as := [.int i7, .int (1 : Int32)]) (S' := []) d0_164 w79 w80 w81 w82 cw13 ar13 rk0_13_0 (by decide) rfl rfl (X_deliveredAt_pay hg17) <| ans1 <| Runs.iload d0_167 rfl <| ?_
          refine ite_el hf (fun hc18 hf => ?_) (fun hc18 hf => ?_)
          · refine Runs.icY (pc' := 174) d0_169 (teq hc18).1 (by decide) <| ?_
            refine Runs.aload d0_174 rfl <| Runs.iload d0_176 rfl <| Runs.iconst d0_178 ci_1 <| Runs.iload d0_179 rfl <| ?_
            refine bind_el hf fun r19 hg20 hf => ?_
            refine Runs.callV (N := B14) (W := 0) (as := [.int i7, .int (1 : Int32), .int i5]) (S' := []) d0_181 w84 w85 w86 w87 cw14 ar14 rk0_14_0 (by decide) rfl rfl (X_stamp_pay hg20) <| ans1 <| Runs.iconst d0_184 ci_1 <| ?_
            refine ite_el hf (fun hc21 hf => ?_) (fun hc21 hf => ?_)
            · refine Runs.icY (pc' := 190) d0_185 (teq hc21).1 (by decide) <| ?_
              refine Runs.aload d0_190 rfl <| Runs.iload d0_192 rfl <| Runs.iconst d0_194 ci_1 <| Runs.iload d0_195 rfl <| ?_
              refine bind_el hf fun r22 hg23 hf => ?_
              refine Runs.callV (N := B14) (W := 0) (as := [.int i7, .int (1 : Int32), .int i7]) (S' := []) d0_197 w84 w85 w86 w87 cw14 ar14 rk0_14_0 (by decide) rfl rfl (X_stamp_pay hg23) <| ans1 <| Runs.iconst d0_200 ci_1 <| ?_
              refine ite_el hf (fun hc24 hf => ?_) (fun hc24 hf => ?_)
              · refine Runs.icY (pc' := 206) d0_201 (teq hc24).1 (by decide) <| ?_
                refine Runs.aload d0_206 rfl <| Runs.iload d0_208 rfl <| Runs.iconst d0_210 ci_1 <| Runs.iload d0_211 rfl <| ?_
                refine bind_el hf fun r25 hg26 hf => ?_
                refine Runs.callV (N := B14) (W := 0) (as := [.int i7, .int (1 : Int32), .int ((i5 + t0) % (8 : Int32))]) (S' := []) d0_213 w84 w85 w86 w87 cw14 ar14 rk0_14_0 (by decide) rfl rfl (X_stamp_pay hg26) <| ans1 <| ?_
                refine ite_el hf (fun hc27 hf => ?_) (fun hc27 hf => ?_)
                · refine Runs.ifY (pc' := 221) d0_216 (teq hc27).1 (by decide) <| ?_
                  refine Runs.aload d0_221 rfl <| Runs.iload d0_223 rfl <| Runs.iload d0_225 rfl <| Runs.iconst d0_227 ci_1 <| ?_
                  refine bind2_el hf fun r28 q29 hg30 hf => ?_
                  refine Runs.callV (N := B8) (W := 0) (as := [.int ((i5 + t0) % (8 : Int32)), .int i7, .int (1 : Int32)]) (S' := []) d0_228 w58 w59 w60 w61 cw8 ar8 rk0_8_0 (by decide) rfl rfl (X_receive_pay hg30) <| ans1 <| ?_
                  refine ite_el hf (fun hc31 hf => ?_) (fun hc31 hf => ?_)
                  · refine Runs.ifY (pc' := 236) d0_231 (teq hc31).1 (by decide) <| ?_
                    refine Runs.aload d0_236 rfl <| Runs.iload d0_238 rfl <| Runs.iload d0_240 rfl <| Runs.iconst d0_242 ci_1 <| ?_
                    refine bind_el hf fun r32 hg33 hf => ?_
                    refine Runs.callV (N := B15) (W := 0) (as := [.int ((i5 + t0) % (8 : Int32)), .int i7, .int (1 : Int32)]) (S' := []) d0_243 w89 w90 w91 w92 cw15 ar15 rk0_15_0 (by decide) rfl rfl (X_state_pay hg33) <| ans1 <| Runs.iconst d0_246 ci_1 <| ?_
                    refine ite_el hf (fun hc34 hf => ?_) (fun hc34 hf => ?_)
                    · refine Runs.icY (pc' := 252) d0_247 (teq hc34).1 (by decide) <| ?_
                      refine Runs.aload d0_252 rfl <| Runs.iload d0_254 rfl <| Runs.iload d0_256 rfl <| ?_
                      refine bind_el hf fun r35 hg36 hf => ?_
                      refine Runs.callV (N := B16) (W := 0) (as := [.int ((i5 + t0) % (8 : Int32)), .int i7]) (S' := []) d0_258 w94 w95 w96 w97 cw16 ar16 rk0_16_0 (by decide) rfl rfl (X_delivered_pay hg36) <| ans1 <| ?_
                      refine ite_el hf (fun hc37 hf => ?_) (fun hc37 hf => ?_)
                      · refine Runs.ifY (pc' := 266) d0_261 (teq hc37).1 (by decide) <| ?_
                        refine Runs.aload d0_266 rfl <| Runs.iload d0_268 rfl <| Runs.iconst d0_270 ci_0 <| ?_
                        refine bind_el hf fun r38 hg39 hf => ?_
                        refine Runs.callV (N := B13) (W := 0) (as := [.int ((i5 + t0) % (8 : Int32)), .int (0 : Int32)]) (S' := []) d0_271 w79 w80 w81 w82 cw13 ar13 rk0_13_0 (by decide) rfl rfl (X_deliveredAt_pay hg39) <| ans1 <| Runs.iconst d0_274 ci_m1 <| ?_
                        refine ite_el hf (fun hc40 hf => ?_) (fun hc40 hf => ?_)
                        · refine Runs.icY (pc' := 280) d0_275 (teq hc40).1 (by decide) <| ?_
                          refine Runs.aload d0_280 rfl <| Runs.iload d0_282 rfl <| Runs.iload d0_284 rfl <| Runs.iconst d0_286 ci_1 <| ?_
                          refine bind2_el hf fun r41 q42 hg43 hf => ?_
                          refine Runs.callV (N := B8) (W := 0) (as := [.int ((i5 + t0) % (8 : Int32)), .int i5, .int (1 : Int32)]) (S' := []) d0_287 w58 w59 w60 w61 cw8 ar8 rk0_8_0 (by decide) rfl rfl (X_receive_pay hg43) <| ans1 <| Runs.iconst d0_290 ci_2 <| ?_
                          refine ite_el hf (fun hc44 hf => ?_) (fun hc44 hf => ?_)
                          · refine Runs.icY (pc' := 296) d0_291 (teq hc44).1 (by decide) <| ?_
                            refine Runs.aload d0_296 rfl <| Runs.iload d0_298 rfl <| Runs.iconst d0_300 ci_0 <| ?_
                            refine bind_el hf fun r45 hg46 hf => ?_
                            refine Runs.callV (N := B13) (W := 0) (as := [.int ((i5 + t0) % (8 : Int32)), .int (0 : Int32)]) (S' := []) d0_301 w79 w80 w81 w82 cw13 ar13 rk0_13_0 (by decide) rfl rfl (X_deliveredAt_pay hg46) <| ans1 <| Runs.iload d0_304 rfl <| ?_
                            refine ite_el hf (fun hc47 hf => ?_) (fun hc47 hf => ?_)
                            · refine Runs.icY (pc' := 311) d0_306 (teq hc47).1 (by decide) <| ?_
                              refine Runs.aload d0_311 rfl <| Runs.iload d0_313 rfl <| Runs.iconst d0_315 ci_1 <| ?_
                              refine bind_el hf fun r48 hg49 hf => ?_
                              refine Runs.callV (N := B13) (W := 0) (as := [.int ((i5 + t0) % (8 : Int32)), .int (1 : Int32)]) (S' := []) d0_316 w79 w80 w81 w82 cw13 ar13 rk0_13_0 (by decide) rfl rfl (X_deliveredAt_pay hg49) <| ans1 <| Runs.iload d0_319 rfl <| ?_
                              refine ite_el hf (fun hc50 hf => ?_) (fun hc50 hf => ?_)
                              · refine Runs.icY (pc' := 326) d0_321 (teq hc50).1 (by decide) <| ?_
                                refine Runs.aload d0_326 rfl <| Runs.iload d0_328 rfl <| Runs.iconst d0_330 ci_2 <| ?_
                                refine bind_el hf fun r51 hg52 hf => ?_
                                refine Runs.callV (N := B13) (W := 0) (as := [.int ((i5 + t0) % (8 : Int32)), .int (2 : Int32)]) (S' := []) d0_331 w79 w80 w81 w82 cw13 ar13 rk0_13_0 (by decide) rfl rfl (X_deliveredAt_pay hg52) <| ans1 <| Runs.iconst d0_334 ci_m1 <| ?_
                                refine ite_el hf (fun hc53 hf => ?_) (fun hc53 hf => ?_)
                                · refine Runs.icY (pc' := 340) d0_335 (teq hc53).1 (by decide) <| ?_
                                  refine Runs.aload d0_340 rfl <| Runs.iload d0_342 rfl <| Runs.iload d0_344 rfl <| ?_
                                  refine bind_el hf fun r54 hg55 hf => ?_
                                  refine Runs.callV (N := B16) (W := 0) (as := [.int ((i5 + t0) % (8 : Int32)), .int i5]) (S' := []) d0_346 w94 w95 w96 w97 cw16 ar16 rk0_16_0 (by decide) rfl rfl (X_delivered_pay hg55) <| ans1 <| Runs.iconst d0_349 ci_1 <| ?_
                                  refine ite_el hf (fun hc56 hf => ?_) (fun hc56 hf => ?_)
                                  · refine Runs.icY (pc' := 355) d0_350 (teq hc56).1 (by decide) <| ?_
                                    refine Runs.aload d0_355 rfl <| Runs.iload d0_357 rfl <| Runs.iload d0_359 rfl <| ?_
                                    refine bind_el hf fun r57 hg58 hf => ?_
                                    refine Runs.callV (N := B16) (W := 0) (as := [.int ((i5 + t0) % (8 : Int32)), .int i7]) (S' := []) d0_361 w94 w95 w96 w97 cw16 ar16 rk0_16_0 (by decide) rfl rfl (X_delivered_pay hg58) <| ans1 <| Runs.iconst d0_364 ci_1 <| ?_
                                    refine ite_el hf (fun hc59 hf => ?_) (fun hc59 hf => ?_)
                                    · refine Runs.icY (pc' := 370) d0_365 (teq hc59).1 (by decide) <| ?_
                                      refine Runs.aload d0_370 rfl <| Runs.iload d0_372 rfl <| Runs.iload d0_374 rfl <| Runs.iconst d0_376 ci_1 <| ?_
                                      refine bind_el hf fun r60 hg61 hf => ?_
                                      refine Runs.callV (N := B15) (W := 0) (as := [.int ((i5 + t0) % (8 : Int32)), .int i5, .int (1 : Int32)]) (S' := []) d0_377 w89 w90 w91 w92 cw15 ar15 rk0_15_0 (by decide) rfl rfl (X_state_pay hg61) <| ans1 <| Runs.iconst d0_380 ci_2 <| ?_
                                      refine ite_el hf (fun hc62 hf => ?_) (fun hc62 hf => ?_)
                                      · refine Runs.icY (pc' := 386) d0_381 (teq hc62).1 (by decide) <| ?_
                                        refine Runs.aload d0_386 rfl <| Runs.iload d0_388 rfl <| Runs.iload d0_390 rfl <| Runs.iconst d0_392 ci_1 <| ?_
                                        refine bind_el hf fun r63 hg64 hf => ?_
                                        refine Runs.callV (N := B15) (W := 0) (as := [.int ((i5 + t0) % (8 : Int32)), .int i7, .int (1 : Int32)]) (S' := []) d0_393 w89 w90 w91 w92 cw15 ar15 rk0_15_0 (by decide) rfl rfl (X_state_pay hg64) <| ans1 <| Runs.iconst d0_396 ci_2 <| ?_
                                        refine ite_el hf (fun hc65 hf => ?_) (fun hc65 hf => ?_)
                                        · refine Runs.icY (pc' := 402) d0_397 (teq hc65).1 (by decide) <| ?_
                                          refine Runs.aload d0_402 rfl <| Runs.iload d0_404 rfl <| Runs.iload d0_406 rfl <| Runs.iload d0_408 rfl <| ?_
                                          refine bind_el hf fun r66 hg67 hf => ?_
                                          refine Runs.callV (N := B17) (W := 0) (as := [.int ((i5 + t0) % (8 : Int32)), .int ((i5 + t0) % (8 : Int32)), .int i5]) (S' := []) d0_410 w99 w100 w101 w102 cw17 ar17 rk0_17_0 (by decide) rfl rfl (X_known_pay hg67) <| ans1 <| Runs.iconst d0_413 ci_1 <| ?_
                                          refine ite_el hf (fun hc68 hf => ?_) (fun hc68 hf => ?_)
                                          · refine Runs.icY (pc' := 419) d0_414 (teq hc68).1 (by decide) <| ?_
                                            refine Runs.aload d0_419 rfl <| Runs.iload d0_421 rfl <| Runs.iload d0_423 rfl <| Runs.iload d0_425 rfl <| ?_
                                            refine bind_el hf fun r69 hg70 hf => ?_
                                            refine Runs.callV (N := B17) (W := 0) (as := [.int ((i5 + t0) % (8 : Int32)), .int ((i5 + t0) % (8 : Int32)), .int i7]) (S' := []) d0_427 w99 w100 w101 w102 cw17 ar17 rk0_17_0 (by decide) rfl rfl (X_known_pay hg70) <| ans1 <| Runs.iconst d0_430 ci_1 <| ?_
                                            refine ite_el hf (fun hc71 hf => ?_) (fun hc71 hf => ?_)
                                            · refine Runs.icY (pc' := 436) d0_431 (teq hc71).1 (by decide) <| ?_
                                              refine Runs.aload d0_436 rfl <| Runs.iload d0_438 rfl <| Runs.iconst d0_440 ci_1 <| Runs.iload d0_441 rfl <| ?_
                                              refine bind_el hf fun r72 hg73 hf => ?_
                                              refine Runs.callV (N := B18) (W := 0) (as := [.int i5, .int (1 : Int32), .int ((i5 + t0) % (8 : Int32))]) (S' := []) d0_443 w104 w105 w106 w107 cw18 ar18 rk0_18_0 (by decide) rfl rfl (X_copies_pay hg73) <| ans1 <| ?_
                                              refine ite_el hf (fun hc74 hf => ?_) (fun hc74 hf => ?_)
                                              · refine Runs.ifY (pc' := 451) d0_446 (teq hc74).1 (by decide) <| ?_
                                                refine Runs.aload d0_451 rfl <| Runs.iload d0_453 rfl <| Runs.iconst d0_455 ci_1 <| Runs.iload d0_456 rfl <| ?_
                                                refine bind_el hf fun r75 hg76 hf => ?_
                                                refine Runs.callV (N := B18) (W := 0) (as := [.int i7, .int (1 : Int32), .int ((i5 + t0) % (8 : Int32))]) (S' := []) d0_458 w104 w105 w106 w107 cw18 ar18 rk0_18_0 (by decide) rfl rfl (X_copies_pay hg76) <| ans1 <| ?_
                                                refine ite_el hf (fun hc77 hf => ?_) (fun hc77 hf => ?_)
                                                · refine Runs.ifY (pc' := 466) d0_461 (teq hc77).1 (by decide) <| ?_
                                                  refine Runs.aload d0_466 rfl <| Runs.iload d0_468 rfl <| Runs.iload d0_470 rfl <| Runs.iconst d0_472 ci_1 <| ?_
                                                  refine bind2_el hf fun r78 q79 hg80 hf => ?_
                                                  refine Runs.callV (N := B8) (W := 0) (as := [.int ((i5 + t0) % (8 : Int32)), .int i5, .int (1 : Int32)]) (S' := []) d0_473 w58 w59 w60 w61 cw8 ar8 rk0_8_0 (by decide) rfl rfl (X_receive_pay hg80) <| ans1 <| Runs.bipush d0_476 cb_m4 <| ?_
                                                  refine ite_el hf (fun hc81 hf => ?_) (fun hc81 hf => ?_)
                                                  · refine Runs.icY (pc' := 483) d0_478 (teq hc81).1 (by decide) <| ?_
                                                    obtain rfl := Option.some.inj hf
                                                    exact Runs.iconst d0_483 ci_1 <| Runs.retZ (y := (1 : Int32)) d0_484 rfl ⟨by decide, by decide⟩ rfl rfl
                                                  · refine Runs.icN d0_478 (feq hc81).1 <| ?_
                                                    obtain rfl := Option.some.inj hf
                                                    exact Runs.iconst d0_481 ci_0 <| Runs.retZ (y := (0 : Int32)) d0_482 rfl ⟨by decide, by decide⟩ rfl rfl
                                                · refine Runs.ifN d0_461 (feq hc77).1 <| ?_
                                                  obtain rfl := Option.some.inj hf
                                                  exact Runs.iconst d0_464 ci_0 <| Runs.retZ (y := (0 : Int32)) d0_465 rfl ⟨by decide, by decide⟩ rfl rfl
                                              · refine Runs.ifN d0_446 (feq hc74).1 <| ?_
                                                obtain rfl := Option.some.inj hf
                                                exact Runs.iconst d0_449 ci_0 <| Runs.retZ (y := (0 : Int32)) d0_450 rfl ⟨by decide, by decide⟩ rfl rfl
                                            · refine Runs.icN d0_431 (feq hc71).1 <| ?_
                                              obtain rfl := Option.some.inj hf
                                              exact Runs.iconst d0_434 ci_0 <| Runs.retZ (y := (0 : Int32)) d0_435 rfl ⟨by decide, by decide⟩ rfl rfl
                                          · refine Runs.icN d0_414 (feq hc68).1 <| ?_
                                            obtain rfl := Option.some.inj hf
                                            exact Runs.iconst d0_417 ci_0 <| Runs.retZ (y := (0 : Int32)) d0_418 rfl ⟨by decide, by decide⟩ rfl rfl
                                        · refine Runs.icN d0_397 (feq hc65).1 <| ?_
                                          obtain rfl := Option.some.inj hf
                                          exact Runs.iconst d0_400 ci_0 <| Runs.retZ (y := (0 : Int32)) d0_401 rfl ⟨by decide, by decide⟩ rfl rfl
                                      · refine Runs.icN d0_381 (feq hc62).1 <| ?_
                                        obtain rfl := Option.some.inj hf
                                        exact Runs.iconst d0_384 ci_0 <| Runs.retZ (y := (0 : Int32)) d0_385 rfl ⟨by decide, by decide⟩ rfl rfl
                                    · refine Runs.icN d0_365 (feq hc59).1 <| ?_
                                      obtain rfl := Option.some.inj hf
                                      exact Runs.iconst d0_368 ci_0 <| Runs.retZ (y := (0 : Int32)) d0_369 rfl ⟨by decide, by decide⟩ rfl rfl
                                  · refine Runs.icN d0_350 (feq hc56).1 <| ?_
                                    obtain rfl := Option.some.inj hf
                                    exact Runs.iconst d0_353 ci_0 <| Runs.retZ (y := (0 : Int32)) d0_354 rfl ⟨by decide, by decide⟩ rfl rfl
                                · refine Runs.icN d0_335 (feq hc53).1 <| ?_
                                  obtain rfl := Option.some.inj hf
                                  exact Runs.iconst d0_338 ci_0 <| Runs.retZ (y := (0 : Int32)) d0_339 rfl ⟨by decide, by decide⟩ rfl rfl
                              · refine Runs.icN d0_321 (feq hc50).1 <| ?_
                                obtain rfl := Option.some.inj hf
                                exact Runs.iconst d0_324 ci_0 <| Runs.retZ (y := (0 : Int32)) d0_325 rfl ⟨by decide, by decide⟩ rfl rfl
                            · refine Runs.icN d0_306 (feq hc47).1 <| ?_
                              obtain rfl := Option.some.inj hf
                              exact Runs.iconst d0_309 ci_0 <| Runs.retZ (y := (0 : Int32)) d0_310 rfl ⟨by decide, by decide⟩ rfl rfl
                          · refine Runs.icN d0_291 (feq hc44).1 <| ?_
                            obtain rfl := Option.some.inj hf
                            exact Runs.iconst d0_294 ci_0 <| Runs.retZ (y := (0 : Int32)) d0_295 rfl ⟨by decide, by decide⟩ rfl rfl
                        · refine Runs.icN d0_275 (feq hc40).1 <| ?_
                          obtain rfl := Option.some.inj hf
                          exact Runs.iconst d0_278 ci_0 <| Runs.retZ (y := (0 : Int32)) d0_279 rfl ⟨by decide, by decide⟩ rfl rfl
                      · refine Runs.ifN d0_261 (feq hc37).1 <| ?_
                        obtain rfl := Option.some.inj hf
                        exact Runs.iconst d0_264 ci_0 <| Runs.retZ (y := (0 : Int32)) d0_265 rfl ⟨by decide, by decide⟩ rfl rfl
                    · refine Runs.icN d0_247 (feq hc34).1 <| ?_
                      obtain rfl := Option.some.inj hf
                      exact Runs.iconst d0_250 ci_0 <| Runs.retZ (y := (0 : Int32)) d0_251 rfl ⟨by decide, by decide⟩ rfl rfl
                  · refine Runs.ifN d0_231 (feq hc31).1 <| ?_
                    obtain rfl := Option.some.inj hf
                    exact Runs.iconst d0_234 ci_0 <| Runs.retZ (y := (0 : Int32)) d0_235 rfl ⟨by decide, by decide⟩ rfl rfl
                · refine Runs.ifN d0_216 (feq hc27).1 <| ?_
                  obtain rfl := Option.some.inj hf
                  exact Runs.iconst d0_219 ci_0 <| Runs.retZ (y := (0 : Int32)) d0_220 rfl ⟨by decide, by decide⟩ rfl rfl
              · refine Runs.icN d0_201 (feq hc24).1 <| ?_
                obtain rfl := Option.some.inj hf
                exact Runs.iconst d0_204 ci_0 <| Runs.retZ (y := (0 : Int32)) d0_205 rfl ⟨by decide, by decide⟩ rfl rfl
            · refine Runs.icN d0_185 (feq hc21).1 <| ?_
              obtain rfl := Option.some.inj hf
              exact Runs.iconst d0_188 ci_0 <| Runs.retZ (y := (0 : Int32)) d0_189 rfl ⟨by decide, by decide⟩ rfl rfl
          · refine Runs.icN d0_169 (feq hc18).1 <| ?_
            obtain rfl := Option.some.inj hf
            exact Runs.iconst d0_172 ci_0 <| Runs.retZ (y := (0 : Int32)) d0_173 rfl ⟨by decide, by decide⟩ rfl rfl
        · refine Runs.icN d0_154 (feq hc15).1 <| ?_
          obtain rfl := Option.some.inj hf
          exact Runs.iconst d0_157 ci_0 <| Runs.retZ (y := (0 : Int32)) d0_158 rfl ⟨by decide, by decide⟩ rfl rfl
      · refine Runs.icN d0_141 (feq hc11).1 <| ?_
        obtain rfl := Option.some.inj hf
        exact Runs.iconst d0_144 ci_0 <| Runs.retZ (y := (0 : Int32)) d0_145 rfl ⟨by decide, by decide⟩ rfl rfl
    · refine Runs.icN d0_126 (feq hc8).1 <| ?_
      obtain rfl := Option.some.inj hf
      exact Runs.iconst d0_129 ci_0 <| Runs.retZ (y := (0 : Int32)) d0_130 rfl ⟨by decide, by decide⟩ rfl rfl
  · refine Runs.icN d0_110 (feq hc4).1 <| ?_
    obtain rfl := Option.some.inj hf
    exact Runs.iconst d0_113 ci_0 <| Runs.retZ (y := (0 : Int32)) d0_114 rfl ⟨by decide, by decide⟩ rfl rfl
def L_law (NF : Nat) (i0 : Int32) (i1 : Int32) (i2 : Int32) (i3 : Int32) : Option (Int32) :=
  (X_init (8 : Int32) i3).bind fun q82 =>
  if (((i2 % (6 : Int32)) + (6 : Int32)) % (6 : Int32)) < (((i1 % (7 : Int32)) + (7 : Int32)) % (7 : Int32)) then
    L_law_b72 NF q82 (i0 &&& (7 : Int32)) ((((i0 &&& (7 : Int32)) + (1 : Int32)) + (((i1 % (7 : Int32)) + (7 : Int32)) % (7 : Int32))) % (8 : Int32)) ((1 : Int32) + (((i2 % (6 : Int32)) + (6 : Int32)) % (6 : Int32)))
  else
    L_law_b72 NF q82 (i0 &&& (7 : Int32)) ((((i0 &&& (7 : Int32)) + (1 : Int32)) + (((i1 % (7 : Int32)) + (7 : Int32)) % (7 : Int32))) % (8 : Int32)) ((2 : Int32) + (((i2 % (6 : Int32)) + (6 : Int32)) % (6 : Int32)))
set_option maxRecDepth 65536 in
set_option maxHeartbeats 4000000 in
theorem L_law_p {C : Ctx} {res : Int32} {NF : Nat} (i0 : Int32) (i1 : Int32) (i2 : Int32) (i3 : Int32) (hf : L_law NF i0 i1 i2 i3 = some res) : Runs C B0 0 0 0 [vi i0, vi i1, vi i2, vi i3, vn, vn, vn, vn, vn, vn, vn, vn, vn] [] (C.2.2.1, []) (fun v _ => v = (some (.int res))) := by
  delta L_law at hf
  refine Runs.newK (k' := 1) (n' := 11) d0_0 w0 ⟨by decide, by decide⟩ rfl rfl (by intro x hx; cases hx) <| Runs.dup d0_3 rfl <| Runs.bipush d0_4 cb_8 <| Runs.iloadN d0_6 rfl <| ?_
  refine bind_el hf fun q82 hg83 hf => ?_
  refine Runs.callI (N := B1) (k' := 10) (n' := 2659) (W := 1) (as := [.int (8 : Int32), .int i3]) (S' := [.ref C.2.2.1]) d0_7 rfl rfl w3 w4 cw1 ar1 (by decide) rfl rfl rfl rfl (X_init_pay hg83) <| ans0 <| Runs.astore (P' := [vi i0, vi i1, vi i2, vi i3, vr C.2.2.1, vn, vn, vn, vn, vn, vn, vn, vn]) d0_10 (by decide) rfl <| Runs.iloadN d0_12 rfl <| Runs.bipush d0_13 cb_7 <| Runs.iand d0_15 <| Runs.istore (P' := [vi i0, vi i1, vi i2, vi i3, vr C.2.2.1, vi (i0 &&& (7 : Int32)), vn, vn, vn, vn, vn, vn, vn]) d0_16 (by decide) rfl <| Runs.iloadN d0_18 rfl <| Runs.bipush d0_19 cb_7 <| Runs.irem d0_21 (by decide) <| Runs.bipush d0_22 cb_7 <| Runs.iadd d0_24 <| Runs.bipush d0_25 cb_7 <| ?_
  refine Runs.irem d0_27 (by decide) <| Runs.istore (P' := [vi i0, vi i1, vi i2, vi i3, vr C.2.2.1, vi (i0 &&& (7 : Int32)), vi (((i1 % (7 : Int32)) + (7 : Int32)) % (7 : Int32)), vn, vn, vn, vn, vn, vn]) d0_28 (by decide) rfl <| Runs.iload d0_30 rfl <| Runs.iconst d0_32 ci_1 <| Runs.iadd d0_33 <| Runs.iload d0_34 rfl <| Runs.iadd d0_36 <| Runs.bipush d0_37 cb_8 <| Runs.irem d0_39 (by decide) <| Runs.istore (P' := [vi i0, vi i1, vi i2, vi i3, vr C.2.2.1, vi (i0 &&& (7 : Int32)), vi (((i1 % (7 : Int32)) + (7 : Int32)) % (7 : Int32)), vi ((((i0 &&& (7 : Int32)) + (1 : Int32)) + (((i1 % (7 : Int32)) + (7 : Int32)) % (7 : Int32))) % (8 : Int32)), vn, vn, vn, vn, vn]) d0_40 (by decide) rfl <| Runs.iloadN d0_42 rfl <| Runs.bipush d0_43 cb_6 <| ?_
  refine Runs.irem d0_45 (by decide) <| Runs.bipush d0_46 cb_6 <| Runs.iadd d0_48 <| Runs.bipush d0_49 cb_6 <| Runs.irem d0_51 (by decide) <| Runs.istore (P' := [vi i0, vi i1, vi i2, vi i3, vr C.2.2.1, vi (i0 &&& (7 : Int32)), vi (((i1 % (7 : Int32)) + (7 : Int32)) % (7 : Int32)), vi ((((i0 &&& (7 : Int32)) + (1 : Int32)) + (((i1 % (7 : Int32)) + (7 : Int32)) % (7 : Int32))) % (8 : Int32)), vi (((i2 % (6 : Int32)) + (6 : Int32)) % (6 : Int32)), vn, vn, vn, vn]) d0_52 (by decide) rfl <| Runs.iload d0_54 rfl <| Runs.iload d0_56 rfl <| ?_
  refine ite_el hf (fun hc84 hf => ?_) (fun hc84 hf => ?_)
  · refine Runs.icN d0_58 (tlt hc84).2.1 <| ?_
    exact Runs.iconst d0_61 ci_1 <| Runs.iload d0_62 rfl <| Runs.iadd d0_64 <| Runs.goto (pc' := 72) d0_65 (by decide) <| Runs.forget [false, false, false, false, true, true, false, true, false, false, false, false, false] rfl <| L_law_b72_p q82 (i0 &&& (7 : Int32)) ((((i0 &&& (7 : Int32)) + (1 : Int32)) + (((i1 % (7 : Int32)) + (7 : Int32)) % (7 : Int32))) % (8 : Int32)) ((1 : Int32) + (((i2 % (6 : Int32)) + (6 : Int32)) % (6 : Int32))) hf
  · refine Runs.icY (pc' := 68) d0_58 (flt hc84).2.1 (by decide) <| ?_
    exact Runs.iconst d0_68 ci_2 <| Runs.iload d0_69 rfl <| Runs.iadd d0_71 <| Runs.forget [false, false, false, false, true, true, false, true, false, false, false, false, false] rfl <| L_law_b72_p q82 (i0 &&& (7 : Int32)) ((((i0 &&& (7 : Int32)) + (1 : Int32)) + (((i1 % (7 : Int32)) + (7 : Int32)) % (7 : Int32))) % (8 : Int32)) ((2 : Int32) + (((i2 % (6 : Int32)) + (6 : Int32)) % (6 : Int32))) hf
theorem L_law_pay {C : Ctx} {res : Int32} {NF : Nat} {i0 : Int32} {i1 : Int32} {i2 : Int32} {i3 : Int32} (hf : L_law NF i0 i1 i2 i3 = some res) : Pays C B0 [.int i0, .int i1, .int i2, .int i3] (C.2.2.1, []) (fun v _ => v = (some (.int res))) :=
  Pays.of pnL (Nat.le_of_ble_eq_true rfl) (P := [vi i0, vi i1, vi i2, vi i3, vn, vn, vn, vn, vn, vn, vn, vn, vn]) 9 rfl (L_law_p i0 i1 i2 i3 hf)
--OWED--
theorem gI_sI (ob : Rec) (k j : Nat) (v : Int32) : gI (sI ob k v) j = if j = k then v else gI ob j := rfl
theorem gI_sA (ob : Rec) (k j : Nat) (i v : Int32) : gI (sA ob k i v) j = gI ob j := rfl
theorem gI_sJ (ob : Rec) (k j : Nat) (i : Int32) (v : Int64) : gI (sJ ob k i v) j = gI ob j := rfl
theorem gA_sI (ob : Rec) (k j : Nat) (v x : Int32) : gA (sI ob k v) j x = gA ob j x := rfl
theorem gA_sA (ob : Rec) (k j : Nat) (i v x : Int32) : gA (sA ob k i v) j x = if j = k ∧ x = i then v else gA ob j x := rfl
theorem gA_sJ (ob : Rec) (k j : Nat) (i x : Int32) (v : Int64) : gA (sJ ob k i v) j x = gA ob j x := rfl
theorem gJ_sI (ob : Rec) (k j : Nat) (v x : Int32) : gJ (sI ob k v) j x = gJ ob j x := rfl
theorem gJ_sA (ob : Rec) (k j : Nat) (i v x : Int32) : gJ (sA ob k i v) j x = gJ ob j x := rfl
theorem gJ_sJ (ob : Rec) (k j : Nat) (i x : Int32) (v : Int64) : gJ (sJ ob k i v) j x = if j = k ∧ x = i then v else gJ ob j x := rfl
theorem gI_z (k : Nat) : gI zrec k = 0 := rfl
theorem gA_z (k : Nat) (i : Int32) : gA zrec k i = 0 := rfl
theorem gJ_z (k : Nat) (i : Int32) : gJ zrec k i = 0 := rfl
theorem chk_ok {γ : Type} {n i : Int32} {A : Option γ} (h : 0 ≤ i.toInt ∧ i.toInt < n.toInt) : chk n i A = A := by
  have h0 : ¬ i < 0 := by rw [Int32.lt_iff_toInt_lt]; show ¬ i.toInt < 0; omega
  have h1 : i < n := by rw [Int32.lt_iff_toInt_lt]; exact h.2
  unfold chk; rw [if_neg h0, if_pos h1]
theorem lt_i {x y : Int32} : x < y ↔ x.toInt < y.toInt := Int32.lt_iff_toInt_lt
theorem le_i {x y : Int32} : x ≤ y ↔ x.toInt ≤ y.toInt := Int32.le_iff_toInt_le
theorem eq_i32 {x y : Int32} : x = y ↔ x.toInt = y.toInt := Int32.toInt_inj.symm
theorem bm_id {n : Int} (h : -2147483648 ≤ n ∧ n < 2147483648) : n.bmod (2 ^ 32) = n := Int.bmod_eq_of_le (by omega) (by omega)
theorem ad {x y : Int32} (h : -2147483648 ≤ x.toInt + y.toInt ∧ x.toInt + y.toInt < 2147483648) : (x + y).toInt = x.toInt + y.toInt := by rw [Int32.toInt_add, bm_id h]
theorem sb {x y : Int32} (h : -2147483648 ≤ x.toInt - y.toInt ∧ x.toInt - y.toInt < 2147483648) : (x - y).toInt = x.toInt - y.toInt := by rw [Int32.toInt_sub, bm_id h]
theorem ml {x y : Int32} (h : -2147483648 ≤ x.toInt * y.toInt ∧ x.toInt * y.toInt < 2147483648) : (x * y).toInt = x.toInt * y.toInt := by rw [Int32.toInt_mul, bm_id h]
theorem bind2_some {α β γ : Type} (a : α) (b : β) (f : α → β → Option γ) : bind2 (some (a, b)) f = f a b := rfl
theorem and_b (x m : Int32) (k : Nat) (hm : m.toBitVec.toNat = k) (hk : k < 2147483648) : 0 ≤ (x &&& m).toInt ∧ (x &&& m).toInt ≤ (k : Int) := by
  have h1 : (x &&& m).toBitVec.toNat = x.toBitVec.toNat &&& m.toBitVec.toNat := by rw [Int32.toBitVec_and, BitVec.toNat_and]
  have h2 : (x &&& m).toBitVec.toNat ≤ k := by rw [h1, hm]; exact Nat.and_le_right
  have h3 : (x &&& m).toInt = ((x &&& m).toBitVec.toNat : Int) := by
    show (x &&& m).toBitVec.toInt = _
    exact BitVec.toInt_eq_toNat_of_lt (by omega)
  rw [h3]; omega
theorem mem8 (x : Int32) : (x &&& 7) ∈ ([0, 1, 2, 3, 4, 5, 6, 7] : List Int32) := by
  have h := and_b x 7 7 rfl (by omega)
  simp only [List.mem_cons, eq_i32, Int32.reduceToInt, List.not_mem_nil, or_false]
  omega
theorem mem2 (x : Int32) : (x &&& 1) ∈ ([0, 1] : List Int32) := by
  have h := and_b x 1 1 rfl (by omega)
  simp only [List.mem_cons, eq_i32, Int32.reduceToInt, List.not_mem_nil, or_false]
  omega
-- USE: bits
theorem md (x k : Int32) (hk : 0 < k.toInt ∧ k.toInt < 1000) : 0 ≤ ((x % k + k) % k).toInt ∧ ((x % k + k) % k).toInt < k.toInt := by
  have hm := c_iremV x k
  have hb : -k.toInt < (x % k).toInt ∧ (x % k).toInt < k.toInt := by
    by_cases c : 0 ≤ x.toInt
    · have := hm.1 c (by omega); omega
    · have := hm.2 (by omega) (by omega); omega
  have e1 : (x % k + k).toInt = (x % k).toInt + k.toInt := ad (by omega)
  have := (c_iremV (x % k + k) k).1 (by omega) (by omega)
  exact ⟨this.1, this.2.1⟩
def R (c : Int32) : Rec := sI (sI zrec 0 8) 1 c
theorem ini (b : Int32) : ∃ c ∈ ([1, 2, 3, 4, 5, 6, 7, 8] : List Int32), X_init 8 b = some (R c) := by
  unfold X_init X_init_b90 X_init_b99 X_init_b116
  rw [if_neg (by decide), if_neg (by decide)]
  by_cases h3 : b < 1
  · exact ⟨1, by decide, by rw [if_pos h3, if_neg (by decide)]; rfl⟩
  · rw [if_neg h3]
    by_cases h4 : 8 < b
    · exact ⟨8, by decide, by rw [if_pos h4]; rfl⟩
    · refine ⟨b, ?_, by rw [if_neg h4]; rfl⟩
      simp only [lt_i, Int32.reduceToInt] at h3 h4
      simp only [List.mem_cons, eq_i32, Int32.reduceToInt, List.not_mem_nil, or_false]
      omega
/- the cap counts in broadcast alone -/
def sf (f : Nat → Int32) (o : Rec) : Rec := (f, o.2)
theorem gA_sf (f : Nat → Int32) (o : Rec) (k : Nat) (i : Int32) : gA (sf f o) k i = gA o k i := rfl
theorem sA_sf (f : Nat → Int32) (o : Rec) (k : Nat) (i v : Int32) : sA (sf f o) k i v = sf f (sA o k i v) := rfl
theorem chk_map {α β : Type} (h : α → β) (n i : Int32) (A : Option α) : (chk n i A).map h = chk n i (A.map h) := by
  unfold chk; split
  · rfl
  · split <;> rfl
theorem ite_map {α β : Type} (h : α → β) (c : Prop) [Decidable c] (A B : Option α) : (if c then A else B).map h = if c then A.map h else B.map h := by split <;> rfl
theorem dl_n {o q : Rec} {i1 i2 i3 : Int32} (h : X_deliverAt o i1 i2 i3 = some q) : q.1 = o.1 := by
  have b : ∀ o' : Rec, X_deliverAt_b89 o' i1 i2 = some q → q.1 = o'.1 := by
    intro o' h
    unfold X_deliverAt_b89 X_knownIndex at h
    refine bind_el h (fun x _ h => ?_)
    refine chk_el h (fun _ h => ?_)
    refine chk_el h (fun _ h => ?_)
    cases h; rfl
  unfold X_deliverAt X_stateIndex at h
  refine bind_el h (fun x _ h => ?_)
  refine chk_el h (fun _ h => ?_)
  refine chk_el h (fun _ h => ?_)
  refine chk_el h (fun _ h => ?_)
  refine chk_el h (fun _ h => ?_)
  refine ite_el h (fun _ h => ?_) (fun _ h => ?_)
  · have t := b _ h; exact t
  · refine ite_el h (fun _ h => ?_) (fun _ h => ?_)
    · refine chk_el h (fun _ h => ?_)
      refine chk_el h (fun _ h => ?_)
      have t := b _ h; exact t
    · have t := b _ h; exact t
theorem dl_s (f : Nat → Int32) (o : Rec) (i1 i2 i3 : Int32) : X_deliverAt (sf f o) i1 i2 i3 = (X_deliverAt o i1 i2 i3).map (sf f) := by
  unfold X_deliverAt X_deliverAt_b89 X_stateIndex X_knownIndex
  simp only [gA_sf, sA_sf, Option.bind_some, chk_map, ite_map, Option.map_some]
  rfl
theorem l125_s (f : Nat → Int32) : ∀ (n : Nat) (o : Rec) (i1 i2 i3 i4 : Int32), gI o 0 = f 0 → X_broadcast_l125 12 n (sf f o) i1 i2 i3 i4 = Option.map (fun p : Int32 × Rec => (p.1, sf f p.2)) (X_broadcast_l125 12 n o i1 i2 i3 i4) := by
  intro n
  induction n with
  | zero => intros; rfl
  | succ n ih =>
    intro o i1 i2 i3 i4 h
    have e : gI (sf f o) 0 = gI o 0 := h.symm
    show X_broadcast_w125 12 (X_broadcast_l125 12 n) (sf f o) i1 i2 i3 i4 = Option.map (fun p : Int32 × Rec => (p.1, sf f p.2)) (X_broadcast_w125 12 (X_broadcast_l125 12 n) o i1 i2 i3 i4)
    unfold X_broadcast_w125
    rw [e]
    simp only [sA_sf, chk_map, ite_map, Option.map_some]
    rw [ih _ _ _ _ _ (show gI (sA o 5 (i3 * 8 + i4) 0) 0 = f 0 from h), ih _ _ _ _ _ (show gI (sA o 5 (i3 * 8 + i4) 1) 0 = f 0 from h)]
theorem l64_s (f : Nat → Int32) : ∀ (n : Nat) (o : Rec) (i1 i2 i3 i4 : Int32), gI o 0 = f 0 → X_broadcast_l64 12 n (sf f o) i1 i2 i3 i4 = Option.map (fun p : Int32 × Rec => (p.1, sf f p.2)) (X_broadcast_l64 12 n o i1 i2 i3 i4) := by
  intro n
  induction n with
  | zero => intros; rfl
  | succ n ih =>
    intro o i1 i2 i3 i4 h
    have e : gI (sf f o) 0 = gI o 0 := h.symm
    show X_broadcast_w64 12 (X_broadcast_l64 12 n) (sf f o) i1 i2 i3 i4 = Option.map (fun p : Int32 × Rec => (p.1, sf f p.2)) (X_broadcast_w64 12 (X_broadcast_l64 12 n) o i1 i2 i3 i4)
    unfold X_broadcast_w64
    rw [e]
    simp only [gA_sf, sA_sf, chk_map, ite_map, dl_s]
    rw [ih _ _ _ _ _ (show gI (sA o 4 (i3 * 8 + i4) (gA o 2 (i1 * 8 + i4))) 0 = f 0 from h)]
    have d : (Option.map (sf f) (X_deliverAt (sA o 4 (i3 * 8 + i1) i2) i1 i1 i2)).bind (fun q5 => X_broadcast_l125 12 12 q5 i1 i2 i3 0) = Option.map (fun p : Int32 × Rec => (p.1, sf f p.2)) ((X_deliverAt (sA o 4 (i3 * 8 + i1) i2) i1 i1 i2).bind fun q5 => X_broadcast_l125 12 12 q5 i1 i2 i3 0) := by
      cases hd : X_deliverAt (sA o 4 (i3 * 8 + i1) i2) i1 i1 i2 with
      | none => rfl
      | some q =>
        have hq : gI q 0 = f 0 := by
          have := dl_n hd
          unfold gI at h ⊢
          rw [this]; exact h
        exact l125_s f 12 q i1 i2 i3 0 hq
    rw [d]
theorem vp_s (f : Nat → Int32) (o : Rec) (p : Int32) (h : gI o 0 = f 0) : X_validProc (sf f o) p = X_validProc o p := by
  have e : gI (sf f o) 0 = gI o 0 := h.symm
  unfold X_validProc; rw [e]
theorem ex_s (f : Nat → Int32) (o : Rec) (p s : Int32) (h : gI o 0 = f 0) : X_exists (sf f o) p s = X_exists o p s := by
  have e : gI (sf f o) 0 = gI o 0 := h.symm
  unfold X_exists; rw [e]; rfl
theorem bc_s (f : Nat → Int32) (o : Rec) (i1 : Int32) (h : gI o 0 = f 0) (h0 : gA o 0 i1 = 0) (c1 : 0 < f 1) (c2 : 0 < gI o 1) : X_broadcast 12 (sf f o) i1 = Option.map (fun p : Int32 × Rec => (p.1, sf f p.2)) (X_broadcast 12 o i1) := by
  have e1 : gI (sf f o) 1 = f 1 := rfl
  unfold X_broadcast X_msgIndex
  rw [vp_s f o i1 h, e1]
  simp only [gA_sf, sA_sf, Option.bind_some]
  rw [l64_s f 12 (sA o 0 i1 (gA o 0 i1 + 1)) i1 _ _ 0 h]
  have v : ∃ r, X_validProc o i1 = some r := by
    unfold X_validProc; split
    · exact ⟨_, rfl⟩
    · split <;> exact ⟨_, rfl⟩
  obtain ⟨r, er⟩ := v
  have c1' : gA o 0 i1 < f 1 := by rw [h0]; exact c1
  have c2' : gA o 0 i1 < gI o 1 := by rw [h0]; exact c2
  rw [er, Option.bind_some, Option.bind_some]
  simp only [c1', c2', if_true, chk_map, ite_map, Option.map_some]
theorem isd_s (f : Nat → Int32) (o : Rec) (h : gI o 0 = f 0) (i1 i2 i3 : Int32) : X_isDeliverable 12 (sf f o) i1 i2 i3 = X_isDeliverable 12 o i1 i2 i3 := by
  have l : ∀ (n : Nat) (a b c d : Int32), X_isDeliverable_l63 12 (sf f o) n a b c d = X_isDeliverable_l63 12 o n a b c d := by
    intro n
    induction n with
    | zero => intros; rfl
    | succ n ih =>
      intro a b c d
      have e : gI (sf f o) 0 = gI o 0 := h.symm
      show X_isDeliverable_w63 12 (sf f o) _ a b c d = X_isDeliverable_w63 12 o _ a b c d
      unfold X_isDeliverable_w63
      rw [e]
      simp only [gA_sf, ih]
  unfold X_isDeliverable
  rw [ex_s f o i2 i3 h]
  simp only [gA_sf, l]
  rfl
theorem cas_s (f : Nat → Int32) : ∀ (m : Nat) (o : Rec) (i1 i2 i3 : Int32), gI o 0 = f 0 → X_cascade_l4 12 m (sf f o) i1 i2 i3 = Option.map (fun p : Int32 × Rec => (p.1, sf f p.2)) (X_cascade_l4 12 m o i1 i2 i3) := by
  intro m
  induction m with
  | zero => intros; rfl
  | succ m ihm =>
    have b73 : ∀ (o : Rec) (i1 i2 i3 i4 i5 : Int32), gI o 0 = f 0 → X_cascade_b73 12 (X_cascade_l4 12 m) (sf f o) i1 i2 i3 i4 i5 = Option.map (fun p : Int32 × Rec => (p.1, sf f p.2)) (X_cascade_b73 12 (X_cascade_l4 12 m) o i1 i2 i3 i4 i5) := by
      intro o i1 i2 i3 i4 i5 h
      unfold X_cascade_b73
      rw [dl_s, ite_map]
      cases hd : X_deliverAt o i1 i4 i5 with
      | none => rfl
      | some q =>
        have hq : gI q 0 = f 0 := by
          have := dl_n hd
          unfold gI at h ⊢
          rw [this]; exact h
        show (if i4 < 0 then some (i2, sf f o) else X_cascade_l4 12 m (sf f q) i1 (i2 + 1) (i3 + 1)) = _
        rw [ihm q i1 (i2 + 1) (i3 + 1) hq]; rfl
    have l19 : ∀ (n : Nat) (o : Rec) (i1 i2 i3 i4 i5 i6 : Int32), gI o 0 = f 0 → X_cascade_l19 12 (X_cascade_l4 12 m) n (sf f o) i1 i2 i3 i4 i5 i6 = Option.map (fun p : Int32 × Rec => (p.1, sf f p.2)) (X_cascade_l19 12 (X_cascade_l4 12 m) n o i1 i2 i3 i4 i5 i6) := by
      intro n
      induction n with
      | zero => intros; rfl
      | succ n ih =>
        intro o i1 i2 i3 i4 i5 i6 h
        have e : gI (sf f o) 0 = gI o 0 := h.symm
        show X_cascade_w19 12 (X_cascade_l4 12 m) (X_cascade_l19 12 (X_cascade_l4 12 m) n) (sf f o) i1 i2 i3 i4 i5 i6 = Option.map (fun p : Int32 × Rec => (p.1, sf f p.2)) (X_cascade_w19 12 (X_cascade_l4 12 m) (X_cascade_l19 12 (X_cascade_l4 12 m) n) o i1 i2 i3 i4 i5 i6)
        unfold X_cascade_w19
        rw [e]
        simp only [gA_sf, isd_s f o h, ih o _ _ _ _ _ _ h, b73 o _ _ _ _ _ h, ite_map, chk_map]
        cases hd : X_isDeliverable 12 o i1 i6 (gA o 2 (i1 * 8 + i6) + 1) with
        | none => rfl
        | some r =>
          simp only [Option.bind_some, ite_map]
    intro o i1 i2 i3 h
    show X_cascade_w4 12 (X_cascade_l4 12 m) (sf f o) i1 i2 i3 = Option.map (fun p : Int32 × Rec => (p.1, sf f p.2)) (X_cascade_w4 12 (X_cascade_l4 12 m) o i1 i2 i3)
    unfold X_cascade_w4
    rw [l19 12 o i1 i2 i3 (-1) 0 0 h]
    simp only [ite_map, Option.map_some]
theorem rc_s (f : Nat → Int32) (o : Rec) (h : gI o 0 = f 0) (i1 i2 i3 : Int32) : X_receive 12 (sf f o) i1 i2 i3 = Option.map (fun p : Int32 × Rec => (p.1, sf f p.2)) (X_receive 12 o i1 i2 i3) := by
  have cs : ∀ o' : Rec, gI o' 0 = f 0 → X_cascade 12 (sf f o') i1 = Option.map (fun p : Int32 × Rec => (p.1, sf f p.2)) (X_cascade 12 o' i1) := fun o' h' => cas_s f 12 o' i1 0 0 h'
  have v : ∃ r, X_validProc o i1 = some r := by
    unfold X_validProc; split
    · exact ⟨_, rfl⟩
    · split <;> exact ⟨_, rfl⟩
  obtain ⟨r, er⟩ := v
  unfold X_receive X_copyIndex X_stateIndex
  rw [vp_s f o i1 h, ex_s f o i2 i3 h, er]
  simp only [Option.bind_some, ite_map]
  cases hx : X_exists o i2 i3 with
  | none => rfl
  | some x =>
    simp only [Option.bind_some, gA_sf, sA_sf, chk_map, ite_map, Option.map_some]
    rw [cs _ (show gI (sA (sA o 5 ((i2 * 8 + i3 - 1) * 8 + i1) (gA o 5 ((i2 * 8 + i3 - 1) * 8 + i1) - 1)) 3 (i1 * 64 + i2 * 8 + i3 - 1) 1) 0 = f 0 from h)]
    cases X_cascade 12 (sA (sA o 5 ((i2 * 8 + i3 - 1) * 8 + i1) (gA o 5 ((i2 * 8 + i3 - 1) * 8 + i1) - 1)) 3 (i1 * 64 + i2 * 8 + i3 - 1) 1) i1 with
    | none => rfl
    | some p => rfl
/-- scalars and sent counts stay -/
def Kp (o q : Rec) : Prop := q.1 = o.1 ∧ ∀ x, gA q 0 x = gA o 0 x
theorem Kp.refl (o : Rec) : Kp o o := ⟨rfl, fun _ => rfl⟩
theorem Kp.trans {a b c : Rec} (h : Kp a b) (g : Kp b c) : Kp a c := ⟨g.1.trans h.1, fun x => (g.2 x).trans (h.2 x)⟩
theorem Kp.sA (o : Rec) (k : Nat) (i v : Int32) (hk : ¬ 0 = k) : Kp o (sA o k i v) := ⟨rfl, fun x => by rw [gA_sA, if_neg (fun h => hk h.1)]⟩
theorem Kp.n {o q : Rec} (h : Kp o q) (k : Nat) : gI q k = gI o k := by unfold gI; rw [h.1]
theorem dl_k {o q : Rec} {i1 i2 i3 : Int32} (h : X_deliverAt o i1 i2 i3 = some q) : Kp o q := by
  have b : ∀ o' : Rec, Kp o o' → X_deliverAt_b89 o' i1 i2 = some q → Kp o q := by
    intro o' ho h
    unfold X_deliverAt_b89 X_knownIndex at h
    refine bind_el h (fun x _ h => ?_)
    refine chk_el h (fun _ h => ?_)
    refine chk_el h (fun _ h => ?_)
    cases h; exact ho.trans (Kp.sA _ _ _ _ (by decide))
  unfold X_deliverAt X_stateIndex at h
  refine bind_el h (fun x _ h => ?_)
  refine chk_el h (fun _ h => ?_)
  refine chk_el h (fun _ h => ?_)
  refine chk_el h (fun _ h => ?_)
  refine chk_el h (fun _ h => ?_)
  refine ite_el h (fun _ h => ?_) (fun _ h => ?_)
  · exact b _ ((Kp.sA _ _ _ _ (by decide)).trans (Kp.sA _ _ _ _ (by decide))) h
  · refine ite_el h (fun _ h => ?_) (fun _ h => ?_)
    · refine chk_el h (fun _ h => ?_)
      refine chk_el h (fun _ h => ?_)
      exact b _ ((((Kp.sA _ _ _ _ (by decide)).trans (Kp.sA _ _ _ _ (by decide))).trans (Kp.sA _ _ _ _ (by decide))).trans (Kp.sA _ _ _ _ (by decide))) h
    · exact b _ ((Kp.sA _ _ _ _ (by decide)).trans (Kp.sA _ _ _ _ (by decide))) h
theorem l125_k : ∀ (n : Nat) (o q : Rec) (i1 i2 i3 i4 r : Int32), X_broadcast_l125 12 n o i1 i2 i3 i4 = some (r, q) → Kp o q := by
  intro n
  induction n with
  | zero => intro o q i1 i2 i3 i4 r h; cases h
  | succ n ih =>
    intro o q i1 i2 i3 i4 r h
    have h' : X_broadcast_w125 12 (X_broadcast_l125 12 n) o i1 i2 i3 i4 = some (r, q) := h
    unfold X_broadcast_w125 at h'
    refine ite_el h' (fun _ h => ?_) (fun _ h => ?_)
    · refine ite_el h (fun _ h => ?_) (fun _ h => ?_)
      · refine chk_el h (fun _ h => ?_)
        exact (Kp.sA _ _ _ _ (by decide)).trans (ih _ _ _ _ _ _ _ h)
      · refine chk_el h (fun _ h => ?_)
        exact (Kp.sA _ _ _ _ (by decide)).trans (ih _ _ _ _ _ _ _ h)
    · cases h; exact Kp.refl _
theorem l64_k : ∀ (n : Nat) (o q : Rec) (i1 i2 i3 i4 r : Int32), X_broadcast_l64 12 n o i1 i2 i3 i4 = some (r, q) → Kp o q := by
  intro n
  induction n with
  | zero => intro o q i1 i2 i3 i4 r h; cases h
  | succ n ih =>
    intro o q i1 i2 i3 i4 r h
    have h' : X_broadcast_w64 12 (X_broadcast_l64 12 n) o i1 i2 i3 i4 = some (r, q) := h
    unfold X_broadcast_w64 at h'
    refine ite_el h' (fun _ h => ?_) (fun _ h => ?_)
    · refine chk_el h (fun _ h => ?_)
      refine chk_el h (fun _ h => ?_)
      exact (Kp.sA _ _ _ _ (by decide)).trans (ih _ _ _ _ _ _ _ h)
    · refine chk_el h (fun _ h => ?_)
      refine bind_el h (fun x hx h => ?_)
      exact ((Kp.sA _ _ _ _ (by decide)).trans (dl_k hx)).trans (l125_k _ _ _ _ _ _ _ _ h)
theorem bc_k {o q : Rec} {i1 r : Int32} (h : X_broadcast 12 o i1 = some (r, q)) : q.1 = o.1 ∧ ∀ x, ¬ x = i1 → gA q 0 x = gA o 0 x := by
  unfold X_broadcast X_msgIndex at h
  refine bind_el h (fun x _ h => ?_)
  refine ite_el h (fun _ h => ?_) (fun _ h => ?_)
  · cases h; exact ⟨rfl, fun _ _ => rfl⟩
  · refine chk_el h (fun _ h => ?_)
    refine ite_el h (fun _ h => ?_) (fun _ h => ?_)
    · refine chk_el h (fun _ h => ?_)
      refine ite_el h (fun _ h => ?_) (fun _ h => ?_)
      · refine chk_el h (fun _ h => ?_)
        refine chk_el h (fun _ h => ?_)
        refine bind_el h (fun y _ h => ?_)
        have k := l64_k _ _ _ _ _ _ _ _ h
        refine ⟨k.1, fun x hx => ?_⟩
        rw [k.2 x, gA_sA, if_neg (fun h => hx h.2)]
      · cases h; exact ⟨rfl, fun _ _ => rfl⟩
    · cases h; exact ⟨rfl, fun _ _ => rfl⟩
theorem cas_k : ∀ (m : Nat) (o q : Rec) (i1 i2 i3 r : Int32), X_cascade_l4 12 m o i1 i2 i3 = some (r, q) → Kp o q := by
  intro m
  induction m with
  | zero => intro o q i1 i2 i3 r h; cases h
  | succ m ihm =>
    have b73 : ∀ (o q : Rec) (i1 i2 i3 i4 i5 r : Int32), X_cascade_b73 12 (X_cascade_l4 12 m) o i1 i2 i3 i4 i5 = some (r, q) → Kp o q := by
      intro o q i1 i2 i3 i4 i5 r h
      unfold X_cascade_b73 at h
      refine ite_el h (fun _ h => ?_) (fun _ h => ?_)
      · cases h; exact Kp.refl _
      · refine bind_el h (fun x hx h => ?_)
        exact (dl_k hx).trans (ihm _ _ _ _ _ _ h)
    have l19 : ∀ (n : Nat) (o q : Rec) (i1 i2 i3 i4 i5 i6 r : Int32), X_cascade_l19 12 (X_cascade_l4 12 m) n o i1 i2 i3 i4 i5 i6 = some (r, q) → Kp o q := by
      intro n
      induction n with
      | zero => intro o q i1 i2 i3 i4 i5 i6 r h; cases h
      | succ n ih =>
        intro o q i1 i2 i3 i4 i5 i6 r h
        have h' : X_cascade_w19 12 (X_cascade_l4 12 m) (X_cascade_l19 12 (X_cascade_l4 12 m) n) o i1 i2 i3 i4 i5 i6 = some (r, q) := h
        unfold X_cascade_w19 at h'
        refine ite_el h' (fun _ h => ?_) (fun _ h => ?_)
        · refine chk_el h (fun _ h => ?_)
          refine bind_el h (fun x _ h => ?_)
          refine ite_el h (fun _ h => ?_) (fun _ h => ?_)
          · exact ih _ _ _ _ _ _ _ _ _ h
          · exact b73 _ _ _ _ _ _ _ _ h
        · exact b73 _ _ _ _ _ _ _ _ h
    intro o q i1 i2 i3 r h
    have h' : X_cascade_w4 12 (X_cascade_l4 12 m) o i1 i2 i3 = some (r, q) := h
    unfold X_cascade_w4 at h'
    refine ite_el h' (fun _ h => ?_) (fun _ h => ?_)
    · exact l19 _ _ _ _ _ _ _ _ _ _ h
    · cases h; exact Kp.refl _
theorem rc_k {o q : Rec} {i1 i2 i3 r : Int32} (h : X_receive 12 o i1 i2 i3 = some (r, q)) : Kp o q := by
  unfold X_receive X_copyIndex X_stateIndex at h
  refine bind_el h (fun x _ h => ?_)
  refine ite_el h (fun _ h => ?_) (fun _ h => ?_)
  · cases h; exact Kp.refl _
  · refine bind_el h (fun y _ h => ?_)
    refine ite_el h (fun _ h => ?_) (fun _ h => ?_)
    · cases h; exact Kp.refl _
    · refine chk_el h (fun _ h => ?_)
      refine ite_el h (fun _ h => ?_) (fun _ h => ?_)
      · refine bind_el h (fun z _ h => ?_)
        refine chk_el h (fun _ h => ?_)
        refine ite_el h (fun _ h => ?_) (fun _ h => ?_)
        · cases h; exact Kp.refl _
        · refine chk_el h (fun _ h => ?_)
          refine chk_el h (fun _ h => ?_)
          refine bind_el h (fun w _ h => ?_)
          refine chk_el h (fun _ h => ?_)
          refine ite_el h (fun _ h => ?_) (fun _ h => ?_)
          · refine chk_el h (fun _ h => ?_)
            refine bind2_el h (fun u v hu h => ?_)
            cases h
            exact ((Kp.sA _ _ _ _ (by decide)).trans (Kp.sA _ _ _ _ (by decide))).trans (cas_k _ _ _ _ _ _ _ hu)
          · cases h; exact Kp.sA _ _ _ _ (by decide)
      · cases h; exact Kp.refl _
theorem b2m {f : Nat → Int32} {A : Option (Int32 × Rec)} {F G : Int32 → Rec → Option Int32} (h : ∀ r q, A = some (r, q) → F r (sf f q) = G r q) : bind2 (Option.map (fun p : Int32 × Rec => (p.1, sf f p.2)) A) F = bind2 A G := by
  rcases A with _ | ⟨r, q⟩
  · rfl
  · exact h r q rfl
theorem bnd {A : Option Int32} {F G : Int32 → Option Int32} (h : ∀ r, F r = G r) : A.bind F = A.bind G := by
  cases A
  · rfl
  · exact h _
theorem itc {c : Prop} [Decidable c] {A B D : Option Int32} (h : A = B) : (if c then A else D) = if c then B else D := by rw [h]
theorem da_s (f : Nat → Int32) (o : Rec) (h : gI o 0 = f 0) (a b : Int32) : X_deliveredAt (sf f o) a b = X_deliveredAt o a b := by
  unfold X_deliveredAt; rw [vp_s f o a h]; rfl
theorem st_s (f : Nat → Int32) (o : Rec) (h : gI o 0 = f 0) (a b c : Int32) : X_stamp (sf f o) a b c = X_stamp o a b c := by
  unfold X_stamp; rw [ex_s f o a b h, vp_s f o c h]; rfl
theorem se_s (f : Nat → Int32) (o : Rec) (h : gI o 0 = f 0) (a b c : Int32) : X_state (sf f o) a b c = X_state o a b c := by
  unfold X_state; rw [vp_s f o a h, ex_s f o b c h]; rfl
theorem de_s (f : Nat → Int32) (o : Rec) (h : gI o 0 = f 0) (a b : Int32) : X_delivered (sf f o) a b = X_delivered o a b := by
  unfold X_delivered; rw [vp_s f o a h, vp_s f o b h]; rfl
theorem kn_s (f : Nat → Int32) (o : Rec) (h : gI o 0 = f 0) (a b c : Int32) : X_known (sf f o) a b c = X_known o a b c := by
  unfold X_known; rw [vp_s f o a h, vp_s f o b h, vp_s f o c h]; rfl
theorem cp_s (f : Nat → Int32) (o : Rec) (h : gI o 0 = f 0) (a b c : Int32) : X_copies (sf f o) a b c = X_copies o a b c := by
  unfold X_copies; rw [ex_s f o a b h, vp_s f o c h]; rfl
theorem b72_c (c a b t : Int32) (hc : 0 < c) (hab : ¬ b = a) : L_law_b72 12 (R c) a b t = L_law_b72 12 (R 8) a b t := by
  have e : R c = sf (R c).1 (R 8) := rfl
  generalize hf : (R c).1 = f at e
  have f0 : f 0 = 8 := by rw [← hf]; rfl
  have f1 : 0 < f 1 := by rw [← hf]; exact hc
  rw [e]
  unfold L_law_b72
  rw [bc_s f (R 8) a f0.symm rfl f1 (by show (0 : Int32) < 8; decide)]
  refine b2m (fun r1 q2 h2 => itc ?_)
  have k2 := bc_k h2
  have i2 : ∀ k, gI q2 k = gI (R 8) k := fun k => by unfold gI; rw [k2.1]
  have g2 : gI q2 0 = f 0 := (i2 0).trans f0.symm
  rw [rc_s f q2 g2]
  refine b2m (fun r5 q6 h6 => itc ?_)
  have k6 := rc_k h6
  have g6 : gI q6 0 = f 0 := (k6.n 0).trans g2
  rw [da_s f q6 g6]
  refine bnd (fun r9 => itc ?_)
  rw [bc_s f q6 b g6 (by rw [k6.2, k2.2 b hab]; rfl) f1 (by rw [k6.n 1, i2 1]; show (0 : Int32) < 8; decide)]
  refine b2m (fun r12 q13 h13 => itc ?_)
  have k13 := bc_k h13
  have g13 : gI q13 0 = f 0 := by
    have : gI q13 0 = gI q6 0 := by unfold gI; rw [k13.1]
    rw [this]; exact g6
  rw [da_s f q13 g13]
  refine bnd (fun r16 => itc ?_)
  rw [st_s f q13 g13]
  refine bnd (fun r19 => itc ?_)
  rw [st_s f q13 g13]
  refine bnd (fun r22 => itc ?_)
  rw [st_s f q13 g13]
  refine bnd (fun r25 => itc ?_)
  rw [rc_s f q13 g13]
  refine b2m (fun r28 q29 h29 => itc ?_)
  have g29 : gI q29 0 = f 0 := ((rc_k h29).n 0).trans g13
  rw [se_s f q29 g29]
  refine bnd (fun r32 => itc ?_)
  rw [de_s f q29 g29]
  refine bnd (fun r35 => itc ?_)
  rw [da_s f q29 g29]
  refine bnd (fun r38 => itc ?_)
  rw [rc_s f q29 g29]
  refine b2m (fun r41 q42 h42 => itc ?_)
  have g42 : gI q42 0 = f 0 := ((rc_k h42).n 0).trans g29
  rw [da_s f q42 g42]
  refine bnd (fun _ => itc ?_)
  rw [da_s f q42 g42]
  refine bnd (fun _ => itc ?_)
  rw [da_s f q42 g42]
  refine bnd (fun _ => itc ?_)
  rw [de_s f q42 g42]
  refine bnd (fun _ => itc ?_)
  rw [de_s f q42 g42]
  refine bnd (fun _ => itc ?_)
  rw [se_s f q42 g42]
  refine bnd (fun _ => itc ?_)
  rw [se_s f q42 g42]
  refine bnd (fun _ => itc ?_)
  rw [kn_s f q42 g42]
  refine bnd (fun _ => itc ?_)
  rw [kn_s f q42 g42]
  refine bnd (fun _ => itc ?_)
  rw [cp_s f q42 g42]
  refine bnd (fun _ => itc ?_)
  rw [cp_s f q42 g42]
  refine bnd (fun _ => itc ?_)
  rw [rc_s f q42 g42]
  exact b2m (fun _ _ _ => rfl)
theorem ne_ab : ∀ a ∈ ([0, 1, 2, 3, 4, 5, 6, 7] : List Int32), ∀ d ∈ ([0, 1, 2, 3, 4, 5, 6] : List Int32), ¬ (a + 1 + d) % 8 = a := by decide +kernel
set_option maxHeartbeats 0 in
theorem al0 : ∀ d ∈ ([0, 1, 2, 3, 4, 5, 6] : List Int32), ∀ e ∈ ([0, 1, 2, 3, 4, 5] : List Int32), (if e < d then L_law_b72 12 (R 8) 0 ((0 + 1 + d) % 8) (1 + e) else L_law_b72 12 (R 8) 0 ((0 + 1 + d) % 8) (2 + e)) = some 1 := by decide +kernel
set_option maxHeartbeats 0 in
theorem al1 : ∀ d ∈ ([0, 1, 2, 3, 4, 5, 6] : List Int32), ∀ e ∈ ([0, 1, 2, 3, 4, 5] : List Int32), (if e < d then L_law_b72 12 (R 8) 1 ((1 + 1 + d) % 8) (1 + e) else L_law_b72 12 (R 8) 1 ((1 + 1 + d) % 8) (2 + e)) = some 1 := by decide +kernel
set_option maxHeartbeats 0 in
theorem al2 : ∀ d ∈ ([0, 1, 2, 3, 4, 5, 6] : List Int32), ∀ e ∈ ([0, 1, 2, 3, 4, 5] : List Int32), (if e < d then L_law_b72 12 (R 8) 2 ((2 + 1 + d) % 8) (1 + e) else L_law_b72 12 (R 8) 2 ((2 + 1 + d) % 8) (2 + e)) = some 1 := by decide +kernel
set_option maxHeartbeats 0 in
theorem al3 : ∀ d ∈ ([0, 1, 2, 3, 4, 5, 6] : List Int32), ∀ e ∈ ([0, 1, 2, 3, 4, 5] : List Int32), (if e < d then L_law_b72 12 (R 8) 3 ((3 + 1 + d) % 8) (1 + e) else L_law_b72 12 (R 8) 3 ((3 + 1 + d) % 8) (2 + e)) = some 1 := by decide +kernel
set_option maxHeartbeats 0 in
theorem al4 : ∀ d ∈ ([0, 1, 2, 3, 4, 5, 6] : List Int32), ∀ e ∈ ([0, 1, 2, 3, 4, 5] : List Int32), (if e < d then L_law_b72 12 (R 8) 4 ((4 + 1 + d) % 8) (1 + e) else L_law_b72 12 (R 8) 4 ((4 + 1 + d) % 8) (2 + e)) = some 1 := by decide +kernel
set_option maxHeartbeats 0 in
theorem al5 : ∀ d ∈ ([0, 1, 2, 3, 4, 5, 6] : List Int32), ∀ e ∈ ([0, 1, 2, 3, 4, 5] : List Int32), (if e < d then L_law_b72 12 (R 8) 5 ((5 + 1 + d) % 8) (1 + e) else L_law_b72 12 (R 8) 5 ((5 + 1 + d) % 8) (2 + e)) = some 1 := by decide +kernel
set_option maxHeartbeats 0 in
theorem al6 : ∀ d ∈ ([0, 1, 2, 3, 4, 5, 6] : List Int32), ∀ e ∈ ([0, 1, 2, 3, 4, 5] : List Int32), (if e < d then L_law_b72 12 (R 8) 6 ((6 + 1 + d) % 8) (1 + e) else L_law_b72 12 (R 8) 6 ((6 + 1 + d) % 8) (2 + e)) = some 1 := by decide +kernel
set_option maxHeartbeats 0 in
theorem al7 : ∀ d ∈ ([0, 1, 2, 3, 4, 5, 6] : List Int32), ∀ e ∈ ([0, 1, 2, 3, 4, 5] : List Int32), (if e < d then L_law_b72 12 (R 8) 7 ((7 + 1 + d) % 8) (1 + e) else L_law_b72 12 (R 8) 7 ((7 + 1 + d) % 8) (2 + e)) = some 1 := by decide +kernel
theorem all0 : ∀ c ∈ ([1, 2, 3, 4, 5, 6, 7, 8] : List Int32), ∀ a ∈ ([0, 1, 2, 3, 4, 5, 6, 7] : List Int32), ∀ d ∈ ([0, 1, 2, 3, 4, 5, 6] : List Int32), ∀ e ∈ ([0, 1, 2, 3, 4, 5] : List Int32), (if e < d then L_law_b72 12 (R c) a ((a + 1 + d) % 8) (1 + e) else L_law_b72 12 (R c) a ((a + 1 + d) % 8) (2 + e)) = some 1 := by
  intro c hc a ha d hd e he
  have c0 : 0 < c := by
    simp only [List.mem_cons, List.not_mem_nil, or_false] at hc
    rcases hc with rfl | rfl | rfl | rfl | rfl | rfl | rfl | rfl <;> decide
  have ne := ne_ab a ha d hd
  rw [b72_c c a _ _ c0 ne, b72_c c a _ _ c0 ne]
  simp only [List.mem_cons, List.not_mem_nil, or_false] at ha
  rcases ha with rfl | rfl | rfl | rfl | rfl | rfl | rfl | rfl
  · exact al0 d hd e he
  · exact al1 d hd e he
  · exact al2 d hd e he
  · exact al3 d hd e he
  · exact al4 d hd e he
  · exact al5 d hd e he
  · exact al6 d hd e he
  · exact al7 d hd e he
theorem owed : ∀ i0 i1 i2 i3 : Int32, ∃ NF : Nat, L_law NF i0 i1 i2 i3 = some 1 := by
  intro i0 i1 i2 i3
  refine ⟨12, ?_⟩
  obtain ⟨c, hc, e⟩ := ini i3
  unfold L_law
  rw [e, Option.bind_some]
  have t7 : (7 : Int32).toInt = 7 := rfl
  have t6 : (6 : Int32).toInt = 6 := rfl
  have h1 := md i1 7 (by decide)
  have h2 := md i2 6 (by decide)
  rw [t7] at h1
  rw [t6] at h2
  refine all0 c hc _ (mem8 i0) _ ?_ _ ?_
  · simp only [List.mem_cons, eq_i32, Int32.reduceToInt, List.not_mem_nil, or_false]
    omega
  · simp only [List.mem_cons, eq_i32, Int32.reduceToInt, List.not_mem_nil, or_false]
    omega
-- owed : ∀ i0 i1 i2 i3 : Int32, ∃ NF : Nat, L_law NF i0 i1 i2 i3 = some 1
--COMES--
set_option maxRecDepth 65536 in
set_option maxHeartbeats 4000000 in
theorem comes_1 {Post : Tables → Env → Array Value → State → Outcome → State → Prop} (hpost : ∀ tb e args s v u, (limb_1_1.after args s (.returned v) u = true ∧ limb_1_2.after args s (.returned v) u = true ∧ True) → FrameEnd s (.returned v) u (Jvm.fieldLocs frame_1_writes args s ++ Jvm.arrayLocs frame_1_arrays args s ++ Jvm.staticLocs frame_1_statics s) 32 5440 → Post tb e args s (.returned v) u) :
    ArmFor flags0 classFile x code maxLocals ret World_1 tables_1 room_1 Calls_1 rest_1 Pre_1 Post := by
  intro l hfl _ _ p e ha hc hk s m args below hf hA hF happ hP
  obtain ⟨hcalls, hrest, hpre⟩ := hP
  obtain ⟨-, -, -, hnamed, -, -, -, hat⟩ := (Spec.applies_iff hf).mp happ
  obtain ⟨hg, hn⟩ := and_e (Cond.before_iff.mp (show (Jvm.Cond.and given_1 narrow_1).before args s = true from hpre))
  obtain ⟨hcnt, hg⟩ := and_e hg
  obtain ⟨w0, w1, w2, w3, rfl⟩ : ∃ w0 w1 w2 w3 : Value, args = #[w0, w1, w2, w3] := by
    have hs : args.size = 4 := by simpa [Cond.value, given_1] using hcnt
    obtain ⟨L⟩ := args
    match L, hs with
    | [w0, w1, w2, w3], _ => exact ⟨w0, w1, w2, w3, rfl⟩
  have hw := fun d (hd : d ∈ tables_1) => atoms_spec (ws := Jvm.Cond.code x code maxLocals ret :: tables_1) hat d (List.mem_cons_of_mem _ hd)
  have hfit : Fit s := fun {y c} hc i hi => by
    obtain ⟨ha, rfl⟩ := Array.getElem?_eq_some_iff.mp hc
    have q := List.all_eq_true.mp ((Array.all_eq_true_iff_forall_mem.mp hF) _ (Array.getElem_mem ha)) i (List.mem_range.mpr hi)
    simpa [Array.getElem?_eq_getElem hi] using q
  obtain ⟨h0, hg⟩ := and_e hg
  obtain ⟨i0, e0⟩ := is_v h0
  obtain rfl : w0 = (.int i0) := Option.some.inj e0
  obtain ⟨h1, hg⟩ := and_e hg
  obtain ⟨i1, e1⟩ := is_v h1
  obtain rfl : w1 = (.int i1) := Option.some.inj e1
  obtain ⟨h2, hg⟩ := and_e hg
  obtain ⟨i2, e2⟩ := is_v h2
  obtain rfl : w2 = (.int i2) := Option.some.inj e2
  have h3 := hg
  obtain ⟨i3, e3⟩ := is_v h3
  obtain rfl : w3 = (.int i3) := Option.some.inj e3
  obtain ⟨NF, hlaw⟩ := owed i0 i1 i2 i3
  have hp := L_law_pay (C := (l, s, s.heap.size, #[.int i0, .int i1, .int i2, .int i3])) hlaw hw s.heap (Rep.start s) tables_1
  obtain ⟨n, o, h1, h2, h3, v, L, rfl, ⟨N, G', -, rfl⟩, hq⟩ := hp p e ha hc hk s m _ below hf ((Spec.applies_iff_loose hf).mp happ).1 ⟨rfl, State.Warmed39.refl s, rfl⟩ trivial
  refine ⟨n, _, h1, h2, h3, hpost _ _ _ _ _ _ ⟨Cond.after_iff.mpr rfl, Cond.after_iff.mpr (eq_i res_at (Term.int_eval (1)) rfl), trivial⟩ ⟨hq.1, hq.2.1, (hq.2.2.sift fun y hy => Or.inr (N y hy)).mono (by decide) (by decide)⟩⟩
theorem main_1_1 : Claimed_1_1 := comes_1 fun _ _ _ _ _ _ h hF => ⟨h.1, hF⟩
theorem main_1_2 : Claimed_1_2 := comes_1 fun _ _ _ _ _ _ h hF => ⟨h.2.1, hF⟩
end Jvm.Pilot.@@N@@
namespace Jvm.Pilot.@@N@@
open Jvm Jvm.ClassFile Sem Op Lib Jvm.Free Jvm.Stand Jvm.Pilot.@@N@@.Jvm.D
/-! MADE BY PROGRAM (witnessworld.py) out of the Statement's table words and the real class files: 11 classes; the members and pool entries that the words name. The judged class is class 1, her method 1. -/
namespace start1
open Jvm.ClassFile
def u (s : String) : CpInfo := .utf8 (stringToUtf16 s)
/-- a pool by its gaps: so many unusable entries, then the entry; so many at the end -/
def gap : Nat → List CpInfo → List CpInfo
  | 0, r => r
  | n + 1, r => .unusable :: gap n r
def poolList (es : List (Nat × CpInfo)) (last : Nat) : List CpInfo := es.foldr (fun e r => gap e.1 (e.2 :: r)) (gap last [])
def pool (es : List (Nat × CpInfo)) (last : Nat) : Array CpInfo := ⟨poolList es last⟩
def fileOf (pool : Array CpInfo) (this : Nat) (attrs : Array Attribute := #[]) (ms : Array MethodInfo := #[]) (fl : Nat := 33) (sup : Nat := 0) (ifs : Array Nat := #[]) (fds : Array FieldInfo := #[]) : ClassFile where
  minorVersion := 0
  majorVersion := 65
  constantPool := pool
  accessFlags := fl
  thisClass := this
  superClass := sup
  interfaces := ifs
  fields := fds
  methods := ms
  attributes := attrs
def plain (name : String) (sup : Option ClassId) : Class where
  name := name
  kind := .ordinary
  loader := none
  accessFlags := 33
  super := sup
  interfaces := #[]
  cf := none
  fields := #[]
  methods := #[]
  instanceTypes := #[]
  staticTypes := #[]
  resolved := #[]
  callSites := []
  init := .initialized
  statics := none
  mirror := none

def pool0 : Array CpInfo := pool [(5, u "<init>"), (0, u "()V"), (1, .class_ 10), (1, u "java/lang/Object")] 113

def k0c0 : Code := { maxStack := 0, maxLocals := 1, code := object_method_1_code, exceptionTable := #[], attributes := #[] }
def k0m0 : Method := { name := "<init>", desc := "()V", sig := { parameters := [], returnType := none }, accessFlags := 1, code := some k0c0 }
/-- java/lang/Object -/
def k0 : Class := { plain "java/lang/Object" none with
  accessFlags := 33
  interfaces := #[]
  cf := some (fileOf pool0 8 #[] #[{ accessFlags := 1, nameIndex := 5, descriptorIndex := 6, attributes := #[] }] 33 0 #[] #[])
  fields := #[]
  methods := #[k0m0]
  instanceTypes := #[]
  staticTypes := #[]
  resolved := Array.replicate 124 none
  statics := none }

def pool1 : Array CpInfo := pool [(2, .class_ 4), (1, u "java/lang/Object"), (0, u "<init>"), (0, u "()V"), (0, .class_ 8), (0, u "CausalStable"), (0, .methodref 7 10), (0, .nameAndType 5 11), (0, u "(II)V"), (0, .methodref 7 13), (0, .nameAndType 14 15), (0, u "broadcast"), (0, u "(I)I"), (0, .methodref 7 17), (0, .nameAndType 18 19), (0, u "receive"), (0, u "(III)I"), (0, .methodref 7 21), (0, .nameAndType 22 23), (0, u "deliveredAt"), (0, u "(II)I"), (0, .methodref 7 25), (0, .nameAndType 26 19), (0, u "stamp"), (0, .methodref 7 28), (0, .nameAndType 29 19), (0, u "state"), (0, .methodref 7 31), (0, .nameAndType 32 23), (0, u "delivered"), (0, .methodref 7 34), (0, .nameAndType 35 19), (0, u "known"), (0, .methodref 7 37), (0, .nameAndType 38 19), (0, u "copies"), (0, .class_ 40), (0, u "CausalStableL3"), (2, u "law"), (0, u "(IIII)Z")] 3

def k1m0 : Method := { name := "<init>", desc := "()V", sig := { parameters := [], returnType := none }, accessFlags := 1, code := none }
def k1c1 : Code := { maxStack := 4, maxLocals := 13, code := code, exceptionTable := #[], attributes := #[] }
def k1m1 : Method := { name := "law", desc := "(IIII)Z", sig := { parameters := [.int, .int, .int, .int], returnType := some .boolean }, accessFlags := 9, code := some k1c1 }
/-- CausalStableL3 -/
def k1 : Class := { plain "CausalStableL3" (some 0) with
  accessFlags := 49
  interfaces := #[]
  cf := some (fileOf pool1 39 #[] #[{ accessFlags := 1, nameIndex := 5, descriptorIndex := 6, attributes := #[] }, { accessFlags := 9, nameIndex := 43, descriptorIndex := 44, attributes := #[] }] 49 2 #[] #[])
  fields := #[]
  methods := #[k1m0, k1m1]
  instanceTypes := #[]
  staticTypes := #[]
  resolved := Array.replicate 48 none
  statics := none }

def pool2 : Array CpInfo := pool [(1, .methodref 2 3), (0, .class_ 4), (0, .nameAndType 5 6), (0, u "java/lang/Object"), (0, u "<init>"), (0, u "()V"), (0, .fieldref 8 9), (0, .class_ 10), (0, .nameAndType 11 12), (0, u "CausalStable"), (0, u "sentCount"), (0, u "[I"), (0, .fieldref 8 14), (0, .nameAndType 15 16), (0, u "crashedFlag"), (0, u "[Z"), (0, .fieldref 8 18), (0, .nameAndType 19 12), (0, u "del"), (0, .fieldref 8 21), (0, .nameAndType 22 12), (0, u "msgState"), (0, .fieldref 8 24), (0, .nameAndType 25 12), (0, u "stampArr"), (0, .fieldref 8 27), (0, .nameAndType 28 12), (0, u "copyArr"), (0, .fieldref 8 30), (0, .nameAndType 31 12), (0, u "known"), (0, .fieldref 8 33), (0, .nameAndType 34 12), (0, u "list"), (0, .fieldref 8 36), (0, .nameAndType 37 12), (0, u "listLen"), (0, .fieldref 8 39), (0, .nameAndType 40 41), (0, u "n"), (0, u "I"), (0, .fieldref 8 43), (0, .nameAndType 44 41), (0, u "cap"), (0, .methodref 8 46), (0, .nameAndType 47 48), (0, u "stateIndex"), (0, u "(III)I"), (0, .methodref 8 50), (0, .nameAndType 51 48), (0, u "knownIndex"), (0, .methodref 8 53), (0, .nameAndType 54 55), (0, u "exists"), (0, u "(II)Z"), (0, .methodref 8 57), (0, .nameAndType 58 59), (0, u "msgIndex"), (0, u "(II)I"), (0, .methodref 8 61), (0, .nameAndType 62 63), (0, u "isDeliverable"), (0, u "(III)Z"), (0, .methodref 8 65), (0, .nameAndType 66 67), (0, u "deliverAt"), (0, u "(III)V"), (0, .methodref 8 69), (0, .nameAndType 70 71), (0, u "validProc"), (0, u "(I)Z"), (0, .methodref 8 73), (0, .nameAndType 74 48), (0, u "copyIndex"), (0, .methodref 8 76), (0, .nameAndType 77 78), (0, u "cascade"), (0, u "(I)I"), (6, u "OK"), (2, u "BAD"), (1, u "CRASHED"), (1, u "FULL"), (1, u "NO_COPY"), (1, u "DUPLICATE"), (1, u "NOT_LOGGED"), (1, u "LAST"), (1, u "NONE"), (0, u "HELD"), (1, u "LOGGED"), (1, u "PRUNED"), (1, u "MAX_COPIES"), (0, u "(II)V"), (3, u "broadcast"), (1, u "receive"), (8, u "stamp"), (0, u "copies"), (0, u "state"), (0, u "delivered"), (0, u "deliveredAt")] 3

def k2c0 : Code := { maxStack := 2, maxLocals := 5, code := prog_1_method_1_code, exceptionTable := #[], attributes := #[] }
def k2m0 : Method := { name := "<init>", desc := "(II)V", sig := { parameters := [.int, .int], returnType := none }, accessFlags := 1, code := some k2c0 }
def k2c1 : Code := { maxStack := 2, maxLocals := 2, code := prog_1_method_2_code, exceptionTable := #[], attributes := #[] }
def k2m1 : Method := { name := "validProc", desc := "(I)Z", sig := { parameters := [.int], returnType := some .boolean }, accessFlags := 2, code := some k2c1 }
def k2c2 : Code := { maxStack := 3, maxLocals := 3, code := prog_1_method_3_code, exceptionTable := #[], attributes := #[] }
def k2m2 : Method := { name := "exists", desc := "(II)Z", sig := { parameters := [.int, .int], returnType := some .boolean }, accessFlags := 2, code := some k2c2 }
def k2c3 : Code := { maxStack := 2, maxLocals := 3, code := prog_1_method_4_code, exceptionTable := #[], attributes := #[] }
def k2m3 : Method := { name := "msgIndex", desc := "(II)I", sig := { parameters := [.int, .int], returnType := some .int }, accessFlags := 2, code := some k2c3 }
def k2c4 : Code := { maxStack := 3, maxLocals := 4, code := prog_1_method_5_code, exceptionTable := #[], attributes := #[] }
def k2m4 : Method := { name := "stateIndex", desc := "(III)I", sig := { parameters := [.int, .int, .int], returnType := some .int }, accessFlags := 2, code := some k2c4 }
def k2c5 : Code := { maxStack := 2, maxLocals := 4, code := prog_1_method_6_code, exceptionTable := #[], attributes := #[] }
def k2m5 : Method := { name := "copyIndex", desc := "(III)I", sig := { parameters := [.int, .int, .int], returnType := some .int }, accessFlags := 2, code := some k2c5 }
def k2c6 : Code := { maxStack := 3, maxLocals := 4, code := prog_1_method_7_code, exceptionTable := #[], attributes := #[] }
def k2m6 : Method := { name := "knownIndex", desc := "(III)I", sig := { parameters := [.int, .int, .int], returnType := some .int }, accessFlags := 2, code := some k2c6 }
def k2c7 : Code := { maxStack := 5, maxLocals := 7, code := prog_1_method_8_code, exceptionTable := #[], attributes := #[] }
def k2m7 : Method := { name := "deliverAt", desc := "(III)V", sig := { parameters := [.int, .int, .int], returnType := none }, accessFlags := 2, code := some k2c7 }
def k2c8 : Code := { maxStack := 4, maxLocals := 7, code := prog_1_method_9_code, exceptionTable := #[], attributes := #[] }
def k2m8 : Method := { name := "isDeliverable", desc := "(III)Z", sig := { parameters := [.int, .int, .int], returnType := some .boolean }, accessFlags := 2, code := some k2c8 }
def k2c9 : Code := { maxStack := 4, maxLocals := 8, code := prog_1_method_10_code, exceptionTable := #[], attributes := #[] }
def k2m9 : Method := { name := "cascade", desc := "(I)I", sig := { parameters := [.int], returnType := some .int }, accessFlags := 2, code := some k2c9 }
def k2c10 : Code := { maxStack := 5, maxLocals := 5, code := prog_1_method_13_code, exceptionTable := #[], attributes := #[] }
def k2m10 : Method := { name := "broadcast", desc := "(I)I", sig := { parameters := [.int], returnType := some .int }, accessFlags := 1, code := some k2c10 }
def k2c11 : Code := { maxStack := 4, maxLocals := 6, code := prog_1_method_14_code, exceptionTable := #[], attributes := #[] }
def k2m11 : Method := { name := "receive", desc := "(III)I", sig := { parameters := [.int, .int, .int], returnType := some .int }, accessFlags := 1, code := some k2c11 }
def k2c12 : Code := { maxStack := 3, maxLocals := 5, code := prog_1_method_22_code, exceptionTable := #[], attributes := #[] }
def k2m12 : Method := { name := "stamp", desc := "(III)I", sig := { parameters := [.int, .int, .int], returnType := some .int }, accessFlags := 1, code := some k2c12 }
def k2c13 : Code := { maxStack := 4, maxLocals := 5, code := prog_1_method_23_code, exceptionTable := #[], attributes := #[] }
def k2m13 : Method := { name := "copies", desc := "(III)I", sig := { parameters := [.int, .int, .int], returnType := some .int }, accessFlags := 1, code := some k2c13 }
def k2c14 : Code := { maxStack := 4, maxLocals := 5, code := prog_1_method_24_code, exceptionTable := #[], attributes := #[] }
def k2m14 : Method := { name := "state", desc := "(III)I", sig := { parameters := [.int, .int, .int], returnType := some .int }, accessFlags := 1, code := some k2c14 }
def k2c15 : Code := { maxStack := 3, maxLocals := 3, code := prog_1_method_25_code, exceptionTable := #[], attributes := #[] }
def k2m15 : Method := { name := "delivered", desc := "(II)I", sig := { parameters := [.int, .int], returnType := some .int }, accessFlags := 1, code := some k2c15 }
def k2c16 : Code := { maxStack := 3, maxLocals := 3, code := prog_1_method_26_code, exceptionTable := #[], attributes := #[] }
def k2m16 : Method := { name := "deliveredAt", desc := "(II)I", sig := { parameters := [.int, .int], returnType := some .int }, accessFlags := 1, code := some k2c16 }
def k2c17 : Code := { maxStack := 4, maxLocals := 5, code := prog_1_method_27_code, exceptionTable := #[], attributes := #[] }
def k2m17 : Method := { name := "known", desc := "(III)I", sig := { parameters := [.int, .int, .int], returnType := some .int }, accessFlags := 1, code := some k2c17 }
/-- CausalStable -/
def k2 : Class := { plain "CausalStable" (some 0) with
  accessFlags := 49
  interfaces := #[]
  cf := some (fileOf pool2 8 #[] #[{ accessFlags := 1, nameIndex := 5, descriptorIndex := 110, attributes := #[] }, { accessFlags := 2, nameIndex := 70, descriptorIndex := 71, attributes := #[] }, { accessFlags := 2, nameIndex := 54, descriptorIndex := 55, attributes := #[] }, { accessFlags := 2, nameIndex := 58, descriptorIndex := 59, attributes := #[] }, { accessFlags := 2, nameIndex := 47, descriptorIndex := 48, attributes := #[] }, { accessFlags := 2, nameIndex := 74, descriptorIndex := 48, attributes := #[] }, { accessFlags := 2, nameIndex := 51, descriptorIndex := 48, attributes := #[] }, { accessFlags := 2, nameIndex := 66, descriptorIndex := 67, attributes := #[] }, { accessFlags := 2, nameIndex := 62, descriptorIndex := 63, attributes := #[] }, { accessFlags := 2, nameIndex := 77, descriptorIndex := 78, attributes := #[] }, { accessFlags := 1, nameIndex := 114, descriptorIndex := 78, attributes := #[] }, { accessFlags := 1, nameIndex := 116, descriptorIndex := 48, attributes := #[] }, { accessFlags := 1, nameIndex := 125, descriptorIndex := 48, attributes := #[] }, { accessFlags := 1, nameIndex := 126, descriptorIndex := 48, attributes := #[] }, { accessFlags := 1, nameIndex := 127, descriptorIndex := 48, attributes := #[] }, { accessFlags := 1, nameIndex := 128, descriptorIndex := 59, attributes := #[] }, { accessFlags := 1, nameIndex := 129, descriptorIndex := 59, attributes := #[] }, { accessFlags := 1, nameIndex := 31, descriptorIndex := 48, attributes := #[] }] 49 2 #[] #[{ accessFlags := 25, nameIndex := 85, descriptorIndex := 41, attributes := #[] }, { accessFlags := 25, nameIndex := 88, descriptorIndex := 41, attributes := #[] }, { accessFlags := 25, nameIndex := 90, descriptorIndex := 41, attributes := #[] }, { accessFlags := 25, nameIndex := 92, descriptorIndex := 41, attributes := #[] }, { accessFlags := 25, nameIndex := 94, descriptorIndex := 41, attributes := #[] }, { accessFlags := 25, nameIndex := 96, descriptorIndex := 41, attributes := #[] }, { accessFlags := 25, nameIndex := 98, descriptorIndex := 41, attributes := #[] }, { accessFlags := 25, nameIndex := 100, descriptorIndex := 41, attributes := #[] }, { accessFlags := 25, nameIndex := 102, descriptorIndex := 41, attributes := #[] }, { accessFlags := 25, nameIndex := 103, descriptorIndex := 41, attributes := #[] }, { accessFlags := 25, nameIndex := 105, descriptorIndex := 41, attributes := #[] }, { accessFlags := 25, nameIndex := 107, descriptorIndex := 41, attributes := #[] }, { accessFlags := 25, nameIndex := 109, descriptorIndex := 41, attributes := #[] }, { accessFlags := 2, nameIndex := 40, descriptorIndex := 41, attributes := #[] }, { accessFlags := 2, nameIndex := 44, descriptorIndex := 41, attributes := #[] }, { accessFlags := 2, nameIndex := 11, descriptorIndex := 12, attributes := #[] }, { accessFlags := 2, nameIndex := 15, descriptorIndex := 16, attributes := #[] }, { accessFlags := 2, nameIndex := 19, descriptorIndex := 12, attributes := #[] }, { accessFlags := 2, nameIndex := 22, descriptorIndex := 12, attributes := #[] }, { accessFlags := 2, nameIndex := 25, descriptorIndex := 12, attributes := #[] }, { accessFlags := 2, nameIndex := 28, descriptorIndex := 12, attributes := #[] }, { accessFlags := 2, nameIndex := 31, descriptorIndex := 12, attributes := #[] }, { accessFlags := 2, nameIndex := 34, descriptorIndex := 12, attributes := #[] }, { accessFlags := 2, nameIndex := 37, descriptorIndex := 12, attributes := #[] }])
  fields := #[{ name := "OK", type := .int, accessFlags := 25, slot := 0, constantValue := 0 }, { name := "BAD", type := .int, accessFlags := 25, slot := 1, constantValue := 0 }, { name := "CRASHED", type := .int, accessFlags := 25, slot := 2, constantValue := 0 }, { name := "FULL", type := .int, accessFlags := 25, slot := 3, constantValue := 0 }, { name := "NO_COPY", type := .int, accessFlags := 25, slot := 4, constantValue := 0 }, { name := "DUPLICATE", type := .int, accessFlags := 25, slot := 5, constantValue := 0 }, { name := "NOT_LOGGED", type := .int, accessFlags := 25, slot := 6, constantValue := 0 }, { name := "LAST", type := .int, accessFlags := 25, slot := 7, constantValue := 0 }, { name := "NONE", type := .int, accessFlags := 25, slot := 8, constantValue := 0 }, { name := "HELD", type := .int, accessFlags := 25, slot := 9, constantValue := 0 }, { name := "LOGGED", type := .int, accessFlags := 25, slot := 10, constantValue := 0 }, { name := "PRUNED", type := .int, accessFlags := 25, slot := 11, constantValue := 0 }, { name := "MAX_COPIES", type := .int, accessFlags := 25, slot := 12, constantValue := 0 }, { name := "n", type := .int, accessFlags := 2, slot := 0, constantValue := 0 }, { name := "cap", type := .int, accessFlags := 2, slot := 1, constantValue := 0 }, { name := "sentCount", type := (.array .int), accessFlags := 2, slot := 2, constantValue := 0 }, { name := "crashedFlag", type := (.array .boolean), accessFlags := 2, slot := 3, constantValue := 0 }, { name := "del", type := (.array .int), accessFlags := 2, slot := 4, constantValue := 0 }, { name := "msgState", type := (.array .int), accessFlags := 2, slot := 5, constantValue := 0 }, { name := "stampArr", type := (.array .int), accessFlags := 2, slot := 6, constantValue := 0 }, { name := "copyArr", type := (.array .int), accessFlags := 2, slot := 7, constantValue := 0 }, { name := "known", type := (.array .int), accessFlags := 2, slot := 8, constantValue := 0 }, { name := "list", type := (.array .int), accessFlags := 2, slot := 9, constantValue := 0 }, { name := "listLen", type := (.array .int), accessFlags := 2, slot := 10, constantValue := 0 }]
  methods := #[k2m0, k2m1, k2m2, k2m3, k2m4, k2m5, k2m6, k2m7, k2m8, k2m9, k2m10, k2m11, k2m12, k2m13, k2m14, k2m15, k2m16, k2m17]
  instanceTypes := #[.int, .int, (.array .int), (.array .boolean), (.array .int), (.array .int), (.array .int), (.array .int), (.array .int), (.array .int), (.array .int)]
  staticTypes := #[.int, .int, .int, .int, .int, .int, .int, .int, .int, .int, .int, .int, .int]
  resolved := Array.replicate 133 none
  statics := none }

def pool3 : Array CpInfo := pool [(1, u "java/lang/Cloneable"), (0, .class_ 1), (0, u "java/lang/Object"), (0, .class_ 3)] 3

/-- java/lang/Cloneable -/
def k3 : Class := { plain "java/lang/Cloneable" (some 0) with
  accessFlags := 1537
  interfaces := #[]
  cf := some (fileOf pool3 2 #[] #[] 1537 4 #[] #[])
  fields := #[]
  methods := #[]
  instanceTypes := #[]
  staticTypes := #[]
  resolved := Array.replicate 8 none
  statics := none }

def pool4 : Array CpInfo := pool [(1, u "java/io/Serializable"), (0, .class_ 1), (0, u "java/lang/Object"), (0, .class_ 3)] 3

/-- java/io/Serializable -/
def k4 : Class := { plain "java/io/Serializable" (some 0) with
  accessFlags := 1537
  interfaces := #[]
  cf := some (fileOf pool4 2 #[] #[] 1537 4 #[] #[])
  fields := #[]
  methods := #[]
  instanceTypes := #[]
  staticTypes := #[]
  resolved := Array.replicate 8 none
  statics := none }

/-- the primitive boolean -/
def k5 : Class := { plain "boolean" none with kind := .primitive 'Z', accessFlags := 0x411 }
/-- [Z -/
def k6 : Class := { plain "[Z" (some 0) with kind := .array 5 .boolean, interfaces := #[3, 4], accessFlags := 1041 }

/-- the primitive byte -/
def k7 : Class := { plain "byte" none with kind := .primitive 'B', accessFlags := 0x411 }
/-- [B -/
def k8 : Class := { plain "[B" (some 0) with kind := .array 7 .byte, interfaces := #[3, 4], accessFlags := 1041 }

/-- the primitive int -/
def k9 : Class := { plain "int" none with kind := .primitive 'I', accessFlags := 0x411 }
/-- [I -/
def k10 : Class := { plain "[I" (some 0) with kind := .array 9 .int, interfaces := #[3, 4], accessFlags := 1041 }

def heap : Heap := #[]
def classes : Array Class := #[k0, k1, k2, k3, k4, k5, k6, k7, k8, k9, k10]
def interned : List (Array UInt16 × Addr) := []
def slotsUsed : Nat := 0
def theMethod : MethodId := ⟨1, 1⟩
def args0 : Array Value := #[.int 3, .int 1, .int 1, .int 2]
def aboutOver (below : List Frame) : State where
  vm := { classes := classes, interned := interned.toArray }
  heap := heap
  slotsUsed := slotsUsed
  threads := #[{ frames := .invoking theMethod args0 :: below }]
def below0 : List Frame := [.native { method := ⟨0, 0⟩, args := #[] }]
def about1 : State := aboutOver below0
def p0 : Program := .bare "" "" ""
def e0 : Env := launch0.env 0 0 0
theorem w_frames : about1.frames = Frame.invoking theMethod args0 :: below0 := rfl
set_option maxRecDepth 65536 in
theorem w_args : argsFit about1.vm theMethod args0 = true := by decide +kernel
set_option maxRecDepth 65536 in
theorem w_heap : heapFits about1 = true := by decide +kernel
set_option maxRecDepth 65536 in
theorem w_runnable : about1.curStatus? = some .runnable := by decide +kernel
set_option maxRecDepth 65536 in
theorem w_alone : about1.alone = true := by decide +kernel
set_option maxRecDepth 65536 in
theorem w_named : about1.methodNamed? x = some theMethod := by decide +kernel
set_option maxRecDepth 65536 in
theorem w_hears : about1.hears theMethod below0 = true := by decide +kernel
set_option maxRecDepth 65536 in
theorem w_ripe : about1.ripe theMethod args0 below0 = true := by decide +kernel
theorem w_running : about1.status = .running := rfl
set_option maxRecDepth 65536 in
theorem w_room : about1.hasRoom e0.platform room_1 = true :=
  launch0.hasRoom_least _ room_1 (by decide +kernel) (by decide +kernel) (by decide +kernel) (by decide +kernel) (by decide +kernel) (by decide +kernel)
theorem allAtoms_all (ts : List Jvm.Cond) (a : Array Jvm.Value) (st : Jvm.State) : (allAtoms ts).before a st = ts.all (fun c => c.before a st) := by
  induction ts with
  | nil => rfl
  | cons c t ih =>
    show (Jvm.Cond.and c (allAtoms t)).before a st = _
    rw [Jvm.Cond.before_and, ih, List.all_cons]
def words1 : List Jvm.Cond := Jvm.Cond.code x code maxLocals ret :: tables_1
/-- a 'code' word, met by the world's own term for the bytes: nothing is compared byte by byte -/
theorem code_word {y : MethodName} {bytes : ByteArray} {mx : Nat} {rt : Option FieldType} {a : Array Value} {s : State} {m : MethodId} {meth : Method} {c : Code} (h1 : s.methodNamed? y = some m) (h2 : s.vm.method? m = some meth) (h3 : meth.code = some c) (h4 : c.code = bytes)
    (h5 : (c.maxLocals == mx && c.exceptionTable.isEmpty && decide (c.maxStack ≤ mostOperands) && decide (meth.sig.returnType = rt) && !meth.locks && decide (parseMethodDescriptor y.desc = some meth.sig)) = true) : (Jvm.Cond.code y bytes mx rt).before a s = true := by
  simp only [Bool.and_eq_true, beq_iff_eq, Bool.not_eq_true', decide_eq_true_eq] at h5
  obtain ⟨⟨⟨⟨⟨g1, g2⟩, g3⟩, g4⟩, g5⟩, g6⟩ := h5
  simp [Cond.before, Cond.holds, Cond.value, h1, h2, h3, h4, g1, g2, g3, g4, g5, g6]
def isCode : Jvm.Cond → Bool
  | .code _ _ _ _ => true
  | _ => false
theorem all_split {L : List Jvm.Cond} {P : Jvm.Cond → Bool} (h1 : L.all (fun c => isCode c || P c) = true) (h2 : ∀ c ∈ L.filter isCode, P c = true) : L.all P = true := by
  refine List.all_eq_true.mpr fun c hc => ?_
  have h := List.all_eq_true.mp h1 c hc
  rcases Bool.eq_false_or_eq_true (isCode c) with hi | hi
  · exact h2 c (List.mem_filter.mpr ⟨hc, hi⟩)
  · simpa [hi] using h
set_option maxRecDepth 65536 in
theorem w_c0 : (Jvm.Cond.code x code maxLocals ret).before args0 about1 = true := code_word (m := ⟨1, 1⟩) (meth := k1m1) (c := k1c1) (by decide +kernel) rfl rfl rfl (by decide +kernel)
set_option maxRecDepth 65536 in
theorem w_c1 : (Jvm.Cond.code ({ cls := "CausalStable", name := "<init>", desc := "(II)V" } : Jvm.MethodName) prog_1_method_1_code (5 : Nat) (Option.none : Option Jvm.ClassFile.FieldType)).before args0 about1 = true := code_word (m := ⟨2, 0⟩) (meth := k2m0) (c := k2c0) (by decide +kernel) rfl rfl rfl (by decide +kernel)
set_option maxRecDepth 65536 in
theorem w_c2 : (Jvm.Cond.code ({ cls := "java/lang/Object", name := "<init>", desc := "()V" } : Jvm.MethodName) object_method_1_code (1 : Nat) (Option.none : Option Jvm.ClassFile.FieldType)).before args0 about1 = true := code_word (m := ⟨0, 0⟩) (meth := k0m0) (c := k0c0) (by decide +kernel) rfl rfl rfl (by decide +kernel)
set_option maxRecDepth 65536 in
theorem w_c3 : (Jvm.Cond.code ({ cls := "CausalStable", name := "broadcast", desc := "(I)I" } : Jvm.MethodName) prog_1_method_13_code (5 : Nat) (Option.some Jvm.ClassFile.FieldType.int)).before args0 about1 = true := code_word (m := ⟨2, 10⟩) (meth := k2m10) (c := k2c10) (by decide +kernel) rfl rfl rfl (by decide +kernel)
set_option maxRecDepth 65536 in
theorem w_c4 : (Jvm.Cond.code ({ cls := "CausalStable", name := "validProc", desc := "(I)Z" } : Jvm.MethodName) prog_1_method_2_code (2 : Nat) (Option.some Jvm.ClassFile.FieldType.boolean)).before args0 about1 = true := code_word (m := ⟨2, 1⟩) (meth := k2m1) (c := k2c1) (by decide +kernel) rfl rfl rfl (by decide +kernel)
set_option maxRecDepth 65536 in
theorem w_c5 : (Jvm.Cond.code ({ cls := "CausalStable", name := "msgIndex", desc := "(II)I" } : Jvm.MethodName) prog_1_method_4_code (3 : Nat) (Option.some Jvm.ClassFile.FieldType.int)).before args0 about1 = true := code_word (m := ⟨2, 3⟩) (meth := k2m3) (c := k2c3) (by decide +kernel) rfl rfl rfl (by decide +kernel)
set_option maxRecDepth 65536 in
theorem w_c6 : (Jvm.Cond.code ({ cls := "CausalStable", name := "deliverAt", desc := "(III)V" } : Jvm.MethodName) prog_1_method_8_code (7 : Nat) (Option.none : Option Jvm.ClassFile.FieldType)).before args0 about1 = true := code_word (m := ⟨2, 7⟩) (meth := k2m7) (c := k2c7) (by decide +kernel) rfl rfl rfl (by decide +kernel)
set_option maxRecDepth 65536 in
theorem w_c7 : (Jvm.Cond.code ({ cls := "CausalStable", name := "stateIndex", desc := "(III)I" } : Jvm.MethodName) prog_1_method_5_code (4 : Nat) (Option.some Jvm.ClassFile.FieldType.int)).before args0 about1 = true := code_word (m := ⟨2, 4⟩) (meth := k2m4) (c := k2c4) (by decide +kernel) rfl rfl rfl (by decide +kernel)
set_option maxRecDepth 65536 in
theorem w_c8 : (Jvm.Cond.code ({ cls := "CausalStable", name := "knownIndex", desc := "(III)I" } : Jvm.MethodName) prog_1_method_7_code (4 : Nat) (Option.some Jvm.ClassFile.FieldType.int)).before args0 about1 = true := code_word (m := ⟨2, 6⟩) (meth := k2m6) (c := k2c6) (by decide +kernel) rfl rfl rfl (by decide +kernel)
set_option maxRecDepth 65536 in
theorem w_c9 : (Jvm.Cond.code ({ cls := "CausalStable", name := "receive", desc := "(III)I" } : Jvm.MethodName) prog_1_method_14_code (6 : Nat) (Option.some Jvm.ClassFile.FieldType.int)).before args0 about1 = true := code_word (m := ⟨2, 11⟩) (meth := k2m11) (c := k2c11) (by decide +kernel) rfl rfl rfl (by decide +kernel)
set_option maxRecDepth 65536 in
theorem w_c10 : (Jvm.Cond.code ({ cls := "CausalStable", name := "exists", desc := "(II)Z" } : Jvm.MethodName) prog_1_method_3_code (3 : Nat) (Option.some Jvm.ClassFile.FieldType.boolean)).before args0 about1 = true := code_word (m := ⟨2, 2⟩) (meth := k2m2) (c := k2c2) (by decide +kernel) rfl rfl rfl (by decide +kernel)
set_option maxRecDepth 65536 in
theorem w_c11 : (Jvm.Cond.code ({ cls := "CausalStable", name := "copyIndex", desc := "(III)I" } : Jvm.MethodName) prog_1_method_6_code (4 : Nat) (Option.some Jvm.ClassFile.FieldType.int)).before args0 about1 = true := code_word (m := ⟨2, 5⟩) (meth := k2m5) (c := k2c5) (by decide +kernel) rfl rfl rfl (by decide +kernel)
set_option maxRecDepth 65536 in
theorem w_c12 : (Jvm.Cond.code ({ cls := "CausalStable", name := "cascade", desc := "(I)I" } : Jvm.MethodName) prog_1_method_10_code (8 : Nat) (Option.some Jvm.ClassFile.FieldType.int)).before args0 about1 = true := code_word (m := ⟨2, 9⟩) (meth := k2m9) (c := k2c9) (by decide +kernel) rfl rfl rfl (by decide +kernel)
set_option maxRecDepth 65536 in
theorem w_c13 : (Jvm.Cond.code ({ cls := "CausalStable", name := "isDeliverable", desc := "(III)Z" } : Jvm.MethodName) prog_1_method_9_code (7 : Nat) (Option.some Jvm.ClassFile.FieldType.boolean)).before args0 about1 = true := code_word (m := ⟨2, 8⟩) (meth := k2m8) (c := k2c8) (by decide +kernel) rfl rfl rfl (by decide +kernel)
set_option maxRecDepth 65536 in
theorem w_c14 : (Jvm.Cond.code ({ cls := "CausalStable", name := "deliveredAt", desc := "(II)I" } : Jvm.MethodName) prog_1_method_26_code (3 : Nat) (Option.some Jvm.ClassFile.FieldType.int)).before args0 about1 = true := code_word (m := ⟨2, 16⟩) (meth := k2m16) (c := k2c16) (by decide +kernel) rfl rfl rfl (by decide +kernel)
set_option maxRecDepth 65536 in
theorem w_c15 : (Jvm.Cond.code ({ cls := "CausalStable", name := "stamp", desc := "(III)I" } : Jvm.MethodName) prog_1_method_22_code (5 : Nat) (Option.some Jvm.ClassFile.FieldType.int)).before args0 about1 = true := code_word (m := ⟨2, 12⟩) (meth := k2m12) (c := k2c12) (by decide +kernel) rfl rfl rfl (by decide +kernel)
set_option maxRecDepth 65536 in
theorem w_c16 : (Jvm.Cond.code ({ cls := "CausalStable", name := "state", desc := "(III)I" } : Jvm.MethodName) prog_1_method_24_code (5 : Nat) (Option.some Jvm.ClassFile.FieldType.int)).before args0 about1 = true := code_word (m := ⟨2, 14⟩) (meth := k2m14) (c := k2c14) (by decide +kernel) rfl rfl rfl (by decide +kernel)
set_option maxRecDepth 65536 in
theorem w_c17 : (Jvm.Cond.code ({ cls := "CausalStable", name := "delivered", desc := "(II)I" } : Jvm.MethodName) prog_1_method_25_code (3 : Nat) (Option.some Jvm.ClassFile.FieldType.int)).before args0 about1 = true := code_word (m := ⟨2, 15⟩) (meth := k2m15) (c := k2c15) (by decide +kernel) rfl rfl rfl (by decide +kernel)
set_option maxRecDepth 65536 in
theorem w_c18 : (Jvm.Cond.code ({ cls := "CausalStable", name := "known", desc := "(III)I" } : Jvm.MethodName) prog_1_method_27_code (5 : Nat) (Option.some Jvm.ClassFile.FieldType.int)).before args0 about1 = true := code_word (m := ⟨2, 17⟩) (meth := k2m17) (c := k2c17) (by decide +kernel) rfl rfl rfl (by decide +kernel)
set_option maxRecDepth 65536 in
theorem w_c19 : (Jvm.Cond.code ({ cls := "CausalStable", name := "copies", desc := "(III)I" } : Jvm.MethodName) prog_1_method_23_code (5 : Nat) (Option.some Jvm.ClassFile.FieldType.int)).before args0 about1 = true := code_word (m := ⟨2, 13⟩) (meth := k2m13) (c := k2c13) (by decide +kernel) rfl rfl rfl (by decide +kernel)
def codes1 : List Jvm.Cond := [Jvm.Cond.code x code maxLocals ret, Jvm.Cond.code ({ cls := "CausalStable", name := "<init>", desc := "(II)V" } : Jvm.MethodName) prog_1_method_1_code (5 : Nat) (Option.none : Option Jvm.ClassFile.FieldType), Jvm.Cond.code ({ cls := "java/lang/Object", name := "<init>", desc := "()V" } : Jvm.MethodName) object_method_1_code (1 : Nat) (Option.none : Option Jvm.ClassFile.FieldType), Jvm.Cond.code ({ cls := "CausalStable", name := "broadcast", desc := "(I)I" } : Jvm.MethodName) prog_1_method_13_code (5 : Nat) (Option.some Jvm.ClassFile.FieldType.int), Jvm.Cond.code ({ cls := "CausalStable", name := "validProc", desc := "(I)Z" } : Jvm.MethodName) prog_1_method_2_code (2 : Nat) (Option.some Jvm.ClassFile.FieldType.boolean), Jvm.Cond.code ({ cls := "CausalStable", name := "msgIndex", desc := "(II)I" } : Jvm.MethodName) prog_1_method_4_code (3 : Nat) (Option.some Jvm.ClassFile.FieldType.int), Jvm.Cond.code ({ cls := "CausalStable", name := "deliverAt", desc := "(III)V" } : Jvm.MethodName) prog_1_method_8_code (7 : Nat) (Option.none : Option Jvm.ClassFile.FieldType), Jvm.Cond.code ({ cls := "CausalStable", name := "stateIndex", desc := "(III)I" } : Jvm.MethodName) prog_1_method_5_code (4 : Nat) (Option.some Jvm.ClassFile.FieldType.int), Jvm.Cond.code ({ cls := "CausalStable", name := "knownIndex", desc := "(III)I" } : Jvm.MethodName) prog_1_method_7_code (4 : Nat) (Option.some Jvm.ClassFile.FieldType.int), Jvm.Cond.code ({ cls := "CausalStable", name := "receive", desc := "(III)I" } : Jvm.MethodName) prog_1_method_14_code (6 : Nat) (Option.some Jvm.ClassFile.FieldType.int), Jvm.Cond.code ({ cls := "CausalStable", name := "exists", desc := "(II)Z" } : Jvm.MethodName) prog_1_method_3_code (3 : Nat) (Option.some Jvm.ClassFile.FieldType.boolean), Jvm.Cond.code ({ cls := "CausalStable", name := "copyIndex", desc := "(III)I" } : Jvm.MethodName) prog_1_method_6_code (4 : Nat) (Option.some Jvm.ClassFile.FieldType.int), Jvm.Cond.code ({ cls := "CausalStable", name := "cascade", desc := "(I)I" } : Jvm.MethodName) prog_1_method_10_code (8 : Nat) (Option.some Jvm.ClassFile.FieldType.int), Jvm.Cond.code ({ cls := "CausalStable", name := "isDeliverable", desc := "(III)Z" } : Jvm.MethodName) prog_1_method_9_code (7 : Nat) (Option.some Jvm.ClassFile.FieldType.boolean), Jvm.Cond.code ({ cls := "CausalStable", name := "deliveredAt", desc := "(II)I" } : Jvm.MethodName) prog_1_method_26_code (3 : Nat) (Option.some Jvm.ClassFile.FieldType.int), Jvm.Cond.code ({ cls := "CausalStable", name := "stamp", desc := "(III)I" } : Jvm.MethodName) prog_1_method_22_code (5 : Nat) (Option.some Jvm.ClassFile.FieldType.int), Jvm.Cond.code ({ cls := "CausalStable", name := "state", desc := "(III)I" } : Jvm.MethodName) prog_1_method_24_code (5 : Nat) (Option.some Jvm.ClassFile.FieldType.int), Jvm.Cond.code ({ cls := "CausalStable", name := "delivered", desc := "(II)I" } : Jvm.MethodName) prog_1_method_25_code (3 : Nat) (Option.some Jvm.ClassFile.FieldType.int), Jvm.Cond.code ({ cls := "CausalStable", name := "known", desc := "(III)I" } : Jvm.MethodName) prog_1_method_27_code (5 : Nat) (Option.some Jvm.ClassFile.FieldType.int), Jvm.Cond.code ({ cls := "CausalStable", name := "copies", desc := "(III)I" } : Jvm.MethodName) prog_1_method_23_code (5 : Nat) (Option.some Jvm.ClassFile.FieldType.int)]
set_option maxRecDepth 65536 in
theorem codes_eq : words1.filter isCode = codes1 := rfl
theorem w_codes : ∀ c ∈ words1.filter isCode, c.before args0 about1 = true := by
  rw [codes_eq]
  intro c hc
  simp only [codes1, List.mem_cons, List.not_mem_nil, or_false] at hc
  rcases hc with rfl | rfl | rfl | rfl | rfl | rfl | rfl | rfl | rfl | rfl | rfl | rfl | rfl | rfl | rfl | rfl | rfl | rfl | rfl | rfl
  · exact w_c0
  · exact w_c1
  · exact w_c2
  · exact w_c3
  · exact w_c4
  · exact w_c5
  · exact w_c6
  · exact w_c7
  · exact w_c8
  · exact w_c9
  · exact w_c10
  · exact w_c11
  · exact w_c12
  · exact w_c13
  · exact w_c14
  · exact w_c15
  · exact w_c16
  · exact w_c17
  · exact w_c18
  · exact w_c19
set_option maxRecDepth 65536 in
theorem w_t1 : (words1.take 24).all (fun c => isCode c || c.before args0 about1) = true := by decide +kernel
set_option maxRecDepth 65536 in
theorem w_t2 : ((words1.drop 24).take 24).all (fun c => isCode c || c.before args0 about1) = true := by decide +kernel
set_option maxRecDepth 65536 in
theorem w_t3 : (((words1.drop 24).drop 24).take 24).all (fun c => isCode c || c.before args0 about1) = true := by decide +kernel
set_option maxRecDepth 65536 in
theorem w_t4 : ((((words1.drop 24).drop 24).drop 24).take 24).all (fun c => isCode c || c.before args0 about1) = true := by decide +kernel
set_option maxRecDepth 65536 in
theorem w_t5 : ((((words1.drop 24).drop 24).drop 24).drop 24).all (fun c => isCode c || c.before args0 about1) = true := by decide +kernel
theorem w_tables : (allAtoms (Jvm.Cond.code x code maxLocals ret :: tables_1)).before args0 about1 = true := by
  rw [allAtoms_all]
  show words1.all (fun c => c.before args0 about1) = true
  refine all_split ?_ w_codes
  rw [← List.take_append_drop 24 words1, List.all_append, w_t1, ← List.take_append_drop 24 (words1.drop 24), List.all_append, w_t2, ← List.take_append_drop 24 ((words1.drop 24).drop 24), List.all_append, w_t3, ← List.take_append_drop 24 (((words1.drop 24).drop 24).drop 24), List.all_append, w_t4, w_t5]
  rfl
set_option maxRecDepth 65536 in
theorem w_case : (Jvm.Cond.and given_1 narrow_1).before args0 about1 = true := by decide +kernel
theorem w_applies : (headSpec (Jvm.Cond.code x code maxLocals ret :: tables_1) room_1).applies x e0.platform about1 = true :=
  (Spec.applies_iff w_frames).mpr ⟨w_running, w_runnable, w_alone, w_named, w_hears, w_ripe, w_room, w_tables⟩
theorem atStart : AtStart classFile x code maxLocals ret World_1 tables_1 room_1 Calls_1 rest_1 Pre_1 launch0 p0 e0 about1 theMethod args0 below0 :=
  ⟨lists_1, trivial, launch0.admits_env _ _ _, launch0.least_env, fairChoices_fair.cas, fairChoices_fair.clock, w_frames, w_args, w_heap, w_applies, trivial, trivial, w_case⟩
end start1
theorem witness_1 : WitnessClaimed_1 := ⟨start1.p0, start1.e0, start1.about1, start1.theMethod, start1.args0, start1.below0, start1.atStart⟩
end Jvm.Pilot.@@N@@
