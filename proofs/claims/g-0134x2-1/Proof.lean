import JvmDerived
import JvmDerived.Pilot.@@N@@Statement
import JvmDerived.Pilot.@@N@@Code
set_option linter.unusedVariables false
set_option linter.unusedSimpArgs false
namespace Jvm.RoadKit
open Sem ClassFile Op Lib Jvm.Stand Jvm.Free Jvm.LawKit
section New
variable {p : Program} {l : Launch} {e : Env} {R : Room} {s : State} {m : MethodId} {args : Array Value} {below : List Frame} {meth : Method} {c : Code} {T : State} {locs : List Loc} {cells slots : Nat}
theorem retI (X : Stand p l e R s m args below meth c T locs cells slots) (hx : p.tables.exec = Jvm.exec) {pc : Nat} {Ls : Array Slot} {z : Int32} {rest : List Value} (hret : meth.sig.returnType = some .int) (hd : decode c.code pc = .ok (.ireturn, 1)) {fs : List Frame}
    (hl : ∀ (f : JFrame) (acts : List Action), f.method = m → f.locked = none → f.entered = [] → (doReturn e (T.setTop f) acts (some (.int z))).1 = T.setFrames fs) : Steps p.tables e below (T.setTop (mkF m pc Ls (.int z :: rest))) (T.setFrames fs) := by
  have hm' : T.vm.method? m = some meth := X.method'
  have hn : narrow .int (.int z) = .int z := rfl
  show Steps p.tables e below (T.setTop { method := m, pc := pc, locals := Ls, stack := _ :: rest, locked := none }) _
  jvm_step X.here [X.here.top, hx, hd, hm', hret, hn]
  first | (intro acts; rw [hl _ acts rfl rfl rfl]) | rw [hl _ _ rfl rfl rfl]
  exact Steps.refl _
end New
end Jvm.RoadKit
namespace Jvm.Pilot.@@N@@
open Jvm Jvm.ClassFile Sem Op Lib Jvm.Free Jvm.Stand Jvm.LawKit Jvm.RoadKit Bundle Jvm.Pilot.@@N@@.Jvm.D
/- records: scalars, int-like arrays, long arrays -/
abbrev Rec : Type := (Nat → Int32) × (Nat → Int32 → Int32) × (Nat → Int32 → Int64)
def zrec : Rec := (fun _ => 0, fun _ _ => 0, fun _ _ => 0)
def gI (ob : Rec) (k : Nat) : Int32 := ob.1 k
def gA (ob : Rec) (k : Nat) (i : Int32) : Int32 := ob.2.1 k i
def gJ (ob : Rec) (k : Nat) (i : Int32) : Int64 := ob.2.2 k i
def sI (ob : Rec) (k : Nat) (v : Int32) : Rec := (fun j => if j = k then v else ob.1 j, ob.2)
def sA (ob : Rec) (k : Nat) (i v : Int32) : Rec := (ob.1, fun j x => if j = k ∧ x = i then v else ob.2.1 j x, ob.2.2)
def sJ (ob : Rec) (k : Nat) (i : Int32) (v : Int64) : Rec := (ob.1, ob.2.1, fun j x => if j = k ∧ x = i then v else ob.2.2 j x)
def chk {γ : Type} (n i : Int32) (A : Option γ) : Option γ := if i < 0 then none else if i < n then A else none
def dvz {γ : Type} (y : Int32) (A : Option γ) : Option γ := if y = 0 then none else A
def bind2 {α β γ : Type} (o : Option (α × β)) (f : α → β → Option γ) : Option γ := o.bind fun q => f q.1 q.2
def bind3 {α β γ δ : Type} (o : Option (α × β × δ)) (f : α → β → δ → Option γ) : Option γ := o.bind fun q => f q.1 q.2.1 q.2.2
theorem ite_el {c : Prop} [Decidable c] {γ : Type} {A B : Option γ} {r : γ} {Q : Prop} (h : (if c then A else B) = some r) (t : c → A = some r → Q) (e : ¬ c → B = some r → Q) : Q := by
  by_cases hc : c
  · rw [if_pos hc] at h; exact t hc h
  · rw [if_neg hc] at h; exact e hc h
theorem bind_el {α γ : Type} {o : Option α} {f : α → Option γ} {r : γ} {Q : Prop} (h : o.bind f = some r) (k : ∀ x, o = some x → f x = some r → Q) : Q := by
  cases o with
  | none => cases h
  | some x => exact k x rfl h
theorem bind2_el {α β γ : Type} {o : Option (α × β)} {f : α → β → Option γ} {r : γ} {Q : Prop} (h : bind2 o f = some r) (k : ∀ x y, o = some (x, y) → f x y = some r → Q) : Q := by
  rcases o with _ | ⟨x, y⟩
  · cases h
  · exact k x y rfl h
theorem bind3_el {α β γ δ : Type} {o : Option (α × β × δ)} {f : α → β → δ → Option γ} {r : γ} {Q : Prop} (h : bind3 o f = some r) (k : ∀ x y z, o = some (x, y, z) → f x y z = some r → Q) : Q := by
  rcases o with _ | ⟨x, y, z⟩
  · cases h
  · exact k x y z rfl h
theorem chk_el {γ : Type} {n i : Int32} {A : Option γ} {r : γ} {Q : Prop} (h : chk n i A = some r) (k : (¬ i < 0 ∧ i < n) → A = some r → Q) : Q := by
  unfold chk at h
  by_cases h0 : i < 0
  · rw [if_pos h0] at h; cases h
  · rw [if_neg h0] at h
    by_cases h1 : i < n
    · rw [if_pos h1] at h; exact k ⟨h0, h1⟩ h
    · rw [if_neg h1] at h; cases h
theorem dvz_el {γ : Type} {y : Int32} {A : Option γ} {r : γ} {Q : Prop} (h : dvz y A = some r) (k : y ≠ 0 → A = some r → Q) : Q := by
  unfold dvz at h
  by_cases h0 : y = 0
  · rw [if_pos h0] at h; cases h
  · rw [if_neg h0] at h; exact k h0 h
def All {α : Type} (p : α → Prop) : List α → Prop
  | [] => True
  | x :: l => p x ∧ All p l
theorem All.mem {α : Type} {p : α → Prop} : ∀ {l : List α}, All p l → ∀ {x : α}, x ∈ l → p x
  | [], _, _, h => nomatch h
  | _ :: _, H, _, h => (List.mem_cons.mp h).elim (fun e => e ▸ H.1) (fun e => All.mem H.2 e)
def el (ty : FieldType) (ob : Rec) (k : Nat) (j : Int32) : Value := match ty with
  | .long => .long (ob.2.2 k j)
  | _ => .int (ob.2.1 k j)
def aD (ty : FieldType) : String := match ty with
  | .int => "[I"
  | .boolean => "[Z"
  | _ => "[J"
abbrev Cls : Type := String × List (String × String) × List (String × FieldType × Int32)
abbrev mem1 (k : Nat) {d : Jvm.Cond} (h : tables_1[k]? = some d) : d ∈ tables_1 := List.mem_of_getElem? h
abbrev sOk (C : String) (nd : String × String) : Prop := (Jvm.Cond.lays C C nd.1 nd.2 ∈ tables_1 ∨ Jvm.Cond.laysFinal C C nd.1 nd.2 ∈ tables_1) ∧ (nd.2 = "I" ∨ nd.2 = "Z")
abbrev aOk (C : String) (t : String × FieldType × Int32) : Prop := (Jvm.Cond.lays C C t.1 (aD t.2.1) ∈ tables_1 ∨ Jvm.Cond.laysFinal C C t.1 (aD t.2.1) ∈ tables_1) ∧ (t.2.1 = .int ∨ t.2.1 = .boolean ∨ t.2.1 = .long) ∧ ¬ t.2.2 < 0
def K : Cls := ("CausalStable", [("n", "I"), ("cap", "I")], [("sentCount", .int, 8), ("crashedFlag", .boolean, 8), ("del", .int, 64), ("msgState", .int, 512), ("stampArr", .int, 512), ("copyArr", .int, 512), ("known", .int, 512), ("list", .int, 512), ("listLen", .int, 8)])
theorem kS : All (sOk K.1) K.2.1 := ⟨⟨Or.inl (mem1 34 rfl), Or.inl rfl⟩, ⟨Or.inl (mem1 36 rfl), Or.inl rfl⟩, trivial⟩
theorem kA : All (aOk K.1) K.2.2 := ⟨⟨Or.inl (mem1 15 rfl), Or.inl rfl, by decide⟩, ⟨Or.inl (mem1 18 rfl), Or.inr (Or.inl rfl), by decide⟩, ⟨Or.inl (mem1 20 rfl), Or.inl rfl, by decide⟩, ⟨Or.inl (mem1 22 rfl), Or.inl rfl, by decide⟩, ⟨Or.inl (mem1 24 rfl), Or.inl rfl, by decide⟩, ⟨Or.inl (mem1 26 rfl), Or.inl rfl, by decide⟩, ⟨Or.inl (mem1 28 rfl), Or.inl rfl, by decide⟩, ⟨Or.inl (mem1 30 rfl), Or.inl rfl, by decide⟩, ⟨Or.inl (mem1 32 rfl), Or.inl rfl, by decide⟩, trivial⟩
abbrev kN : Nat := 11
theorem kI : Jvm.Cond.instantiable K.1 kN ∈ tables_1 := mem1 5 rfl
theorem kZ : Jvm.Cond.initialized K.1 ∈ tables_1 := mem1 6 rfl
theorem kNm : (K.2.1.map (·.1) ++ K.2.2.map (·.1)).Nodup := by decide +kernel
theorem nm_ss {k k' : Nat} {nd nd' : String × String} (h : K.2.1[k]? = some nd) (h' : K.2.1[k']? = some nd') (ne : k ≠ k') : nd.1 ≠ nd'.1 := fun e => by
  have l := (List.getElem?_eq_some_iff.mp h).1
  have l' := (List.getElem?_eq_some_iff.mp h').1
  refine ne ((List.getElem?_inj (l := K.2.1.map (·.1) ++ K.2.2.map (·.1)) (i := k) (j := k') (by simp; omega) kNm).mp ?_)
  rw [List.getElem?_append_left (by simpa using l), List.getElem?_append_left (by simpa using l'), List.getElem?_map, List.getElem?_map, h, h']
  simp [e]
theorem nm_aa {k k' : Nat} {t t' : String × FieldType × Int32} (h : K.2.2[k]? = some t) (h' : K.2.2[k']? = some t') (ne : k ≠ k') : t.1 ≠ t'.1 := fun e => by
  have l := (List.getElem?_eq_some_iff.mp h).1
  have l' := (List.getElem?_eq_some_iff.mp h').1
  have q := (List.getElem?_inj (l := K.2.1.map (·.1) ++ K.2.2.map (·.1)) (i := K.2.1.length + k) (j := K.2.1.length + k') (by simp; omega) kNm).mp (by
    rw [List.getElem?_append_right (by simp), List.getElem?_append_right (by simp)]
    simp [h, h', e])
  omega
theorem nm_sa {k k' : Nat} {nd : String × String} {t : String × FieldType × Int32} (h : K.2.1[k]? = some nd) (h' : K.2.2[k']? = some t) : nd.1 ≠ t.1 := fun e => by
  have l := (List.getElem?_eq_some_iff.mp h).1
  have l' := (List.getElem?_eq_some_iff.mp h').1
  have q := (List.getElem?_inj (l := K.2.1.map (·.1) ++ K.2.2.map (·.1)) (i := k) (j := K.2.1.length + k') (by simp; omega) kNm).mp (by
    rw [List.getElem?_append_left (by simpa using l), List.getElem?_append_right (by simp)]
    simp [h, h', e])
  omega
abbrev Ctx : Type := Launch × State × Nat × Array Value
def Ok (C : Ctx) : Prop := ∀ d ∈ tables_1, d.before C.2.2.2 C.2.1 = true
def ArrAt (Z : State) (h : Heap) (b : Nat) (ty : FieldType) (len : Int32) (v : Int32 → Value) : Prop := ∃ cl : Cell, Arr Z h b cl ty ∧ cl.slots.size = len.toNatClampNeg ∧ ∀ j : Int32, ¬ j < 0 → j < len → cl.slots[j.toNatClampNeg]? = some (v j)
def ObjAt (Z : State) (h : Heap) (a : Nat) (q : Nat) (ob : Rec) : Prop :=
  Exa Z h a K.1 ∧ (∀ k nd, K.2.1[k]? = some nd → Fld Z h a K.1 nd.1 nd.2 (.int (ob.1 k))) ∧
  (∀ k t, K.2.2[k]? = some t → k < q → Fld Z h a K.1 t.1 (aD t.2.1) (.ref (a + 1 + k)) ∧ ArrAt Z h (a + 1 + k) t.2.1 t.2.2 (el t.2.1 ob k)) ∧
  (∀ k t, K.2.2[k]? = some t → q ≤ k → Fld Z h a K.1 t.1 (aD t.2.1) .null)
abbrev AH : Type := Nat × List (Nat × Nat × Rec)
def Rep (Z : State) (n0 : Nat) (h : Heap) (G : AH) : Prop :=
  h.size = G.1 ∧ Old Z n0 h ∧ (∀ x ∈ G.2, n0 ≤ x.1 ∧ x.1 + x.2.1 < G.1 ∧ ObjAt Z h x.1 x.2.1 x.2.2) ∧ G.2.Pairwise (fun x y => x.1 + x.2.1 < y.1 ∨ y.1 + y.2.1 < x.1)
section Facts
variable {Z : State} {h h' : Heap} {a b : Nat} {q k n0 top : Nat} {ob ob' : Rec} {nd : String × String} {t : String × FieldType × Int32} {a0 : Array Value} {sl : Nat} {v : Value} {H : List (Nat × Nat × Rec)} {G : AH}
theorem fld_fr {C n d : String} (e : h'[a]? = h[a]?) (F : Fld Z h a C n d v) : Fld Z h' a C n d v := by
  obtain ⟨cell, cf, k, i, f, h1, r⟩ := F; exact ⟨cell, cf, k, i, f, e.trans h1, r⟩
theorem exa_fr {C : String} (e : h'[a]? = h[a]?) (F : Exa Z h a C) : Exa Z h' a C := by
  obtain ⟨cell, k, h1, r⟩ := F; exact ⟨cell, k, e.trans h1, r⟩
theorem arrAt_fr {ty : FieldType} {len : Int32} {w : Int32 → Value} (e : h'[a]? = h[a]?) (F : ArrAt Z h a ty len w) : ArrAt Z h' a ty len w := by
  obtain ⟨cl, A, r⟩ := F; exact ⟨cl, ⟨e.trans A.1, A.2⟩, r⟩
theorem ObjAt.frame (e : ∀ b, a ≤ b → b ≤ a + q → h'[b]? = h[b]?) (F : ObjAt Z h a q ob) : ObjAt Z h' a q ob := by
  have e0 := e a (Nat.le_refl _) (Nat.le_add_right _ _)
  refine ⟨exa_fr e0 F.1, fun k nd hk => fld_fr e0 (F.2.1 k nd hk), fun k t hk hq => ⟨fld_fr e0 (F.2.2.1 k t hk hq).1, arrAt_fr (e _ (by omega) (by omega)) (F.2.2.1 k t hk hq).2⟩, fun k t hk hq => fld_fr e0 (F.2.2.2 k t hk hq)⟩
theorem ObjAt.ext (E : Ext h h') (F : ObjAt Z h a q ob) : ObjAt Z h' a q ob := by
  refine ⟨F.1.ext E, fun k nd hk => (F.2.1 k nd hk).ext E, fun k t hk hq => ⟨(F.2.2.1 k t hk hq).1.ext E, ?_⟩, fun k t hk hq => (F.2.2.2 k t hk hq).ext E⟩
  obtain ⟨cl, A, r⟩ := (F.2.2.1 k t hk hq).2; exact ⟨cl, A.ext E, r⟩
theorem wr_ne (W : Wr h h' a sl v) (ne : b ≠ a) : h'[b]? = h[b]? := by
  obtain ⟨cell, -, -, -, rfl⟩ := W; exact Array.getElem?_setIfInBounds_ne (Ne.symm ne)
theorem laidS (hw : ∀ d ∈ tables_1, d.before a0 Z = true) (hk : K.2.1[k]? = some nd) : Laid Z a0 K.1 K.1 nd.1 nd.2 := ((All.mem kS (List.mem_of_getElem? hk)).1).imp (hw _) (hw _)
theorem laidA (hw : ∀ d ∈ tables_1, d.before a0 Z = true) (hk : K.2.2[k]? = some t) : Laid Z a0 K.1 K.1 t.1 (aD t.2.1) := ((All.mem kA (List.mem_of_getElem? hk)).1).imp (hw _) (hw _)
theorem pfS (hk : K.2.1[k]? = some nd) : ∃ ty, parseFieldDescriptor nd.2 = some ty := by
  rcases (All.mem kS (List.mem_of_getElem? hk)).2 with e | e <;> rw [e]
  · exact ⟨.int, by decide⟩
  · exact ⟨.boolean, by decide⟩
theorem pfA (hk : K.2.2[k]? = some t) : parseFieldDescriptor (aD t.2.1) = some (.array t.2.1) := by
  rcases (All.mem kA (List.mem_of_getElem? hk)).2.1 with e | e | e <;> rw [e] <;> decide
theorem ObjAt.putI {x : Int32} (hw : ∀ d ∈ tables_1, d.before a0 Z = true) (F : ObjAt Z h a q ob) (hk : K.2.1[k]? = some nd) (W : Wr h h' a (Jvm.RoadKit.slotOf Z K.1 nd.1 nd.2) (.int x)) : ObjAt Z h' a q (sI ob k x) := by
  obtain ⟨ty, hty⟩ := pfS hk
  refine ⟨F.1.wr W, fun k' nd' hk' => ?_, fun k' t hk' hq => ⟨(F.2.2.1 k' t hk' hq).1.other W (Or.inr (Jvm.RoadKit.slot_ne (laidA hw hk') (laidS hw hk) (Ne.symm (nm_sa hk hk')) (pfA hk') hty)), ?_⟩, fun k' t hk' hq => (F.2.2.2 k' t hk' hq).other W (Or.inr (Jvm.RoadKit.slot_ne (laidA hw hk') (laidS hw hk) (Ne.symm (nm_sa hk hk')) (pfA hk') hty))⟩
  · by_cases e : k' = k
    · subst e; cases hk.symm.trans hk'
      have := (F.2.1 k' nd hk).same W
      simpa [sI] using this
    · obtain ⟨ty', hty'⟩ := pfS hk'
      have := (F.2.1 k' nd' hk').other W (Or.inr (Jvm.RoadKit.slot_ne (laidS hw hk') (laidS hw hk) (nm_ss hk' hk e) hty' hty))
      simpa [sI, e] using this
  · have := arrAt_fr (wr_ne W (by omega)) (F.2.2.1 k' t hk' hq).2
    have e : el t.2.1 (sI ob k x) k' = el t.2.1 ob k' := by funext j; unfold el; split <;> rfl
    rw [e]; exact this
theorem ObjAt.putA (F : ObjAt Z h a q ob) (hk : K.2.2[k]? = some t) (hq : k < q) {x : Value} {j : Int32} (hj : ¬ j < 0 ∧ j < t.2.2) (W : Wr h h' (a + 1 + k) j.toNatClampNeg x)
    (e1 : el t.2.1 ob' k = fun i => if i = j then x else el t.2.1 ob k i) (e2 : ∀ k' t', k' ≠ k → el t' ob' k' = el t' ob k') (e3 : ob'.1 = ob.1) : ObjAt Z h' a q ob' := by
  have u : h'[a]? = h[a]? := wr_ne W (by omega)
  refine ⟨exa_fr u F.1, fun k' nd hk' => by rw [e3]; exact fld_fr u (F.2.1 k' nd hk'), fun k' t' hk' hq' => ⟨fld_fr u (F.2.2.1 k' t' hk' hq').1, ?_⟩, fun k' t' hk' hq' => fld_fr u (F.2.2.2 k' t' hk' hq')⟩
  by_cases e : k' = k
  · subst e; cases hk.symm.trans hk'
    obtain ⟨cl, A, S, V⟩ := (F.2.2.1 k' t hk hq).2
    have inb : ¬ (j < 0 ∨ cl.slots.size ≤ j.toNatClampNeg) := inb_of S hj
    refine ⟨_, A.same W, by rw [sz_set]; exact S, fun i h0 h1 => ?_⟩
    rw [e1]
    by_cases ei : i = j
    · simp only [ei, if_true]; exact get_hit inb rfl
    · simp only [ei, if_false]; rw [get_miss hj.1 h0 ei]; exact V i h0 h1
  · rw [e2 k' _ e]; exact arrAt_fr (wr_ne W (by omega)) (F.2.2.1 k' t' hk' hq').2
theorem el_sA {ty : FieldType} (ht : ty ≠ .long) (j x : Int32) : el ty (sA ob k j x) k = fun i => if i = j then .int x else el ty ob k i := by
  funext i; cases ty <;> first | exact absurd rfl ht | (simp only [el, sA, true_and]; split <;> rfl)
theorem el_sJ (j : Int32) (x : Int64) : el .long (sJ ob k j x) k = fun i => if i = j then .long x else el .long ob k i := by
  funext i; simp only [el, sJ, true_and]; split <;> rfl
theorem el_sA' (j x : Int32) (k' : Nat) (t' : FieldType) (ne : k' ≠ k) : el t' (sA ob k j x) k' = el t' ob k' := by
  funext i; cases t' <;> simp [el, sA, ne]
theorem el_sJ' (j : Int32) (x : Int64) (k' : Nat) (t' : FieldType) (ne : k' ≠ k) : el t' (sJ ob k j x) k' = el t' ob k' := by
  funext i; cases t' <;> simp [el, sJ, ne]
theorem Rep.upd (R : Rep Z n0 h (top, (a, q, ob) :: H)) (hs : h'.size = h.size) (hO : Old Z n0 h') (e : ∀ b, (b < a ∨ a + q < b) → h'[b]? = h[b]?) (F : ObjAt Z h' a q ob') : Rep Z n0 h' (top, (a, q, ob') :: H) := by
  obtain ⟨r1, r2, r3, r4⟩ := R
  refine ⟨hs.trans r1, hO, fun x hx => ?_, ?_⟩
  · rcases List.mem_cons.mp hx with rfl | hx
    · exact ⟨(r3 _ (List.mem_cons_self ..)).1, (r3 _ (List.mem_cons_self ..)).2.1, F⟩
    · obtain ⟨p1, p2, p3⟩ := r3 x (List.mem_cons_of_mem _ hx)
      refine ⟨p1, p2, p3.frame fun b h1 h2 => e b ?_⟩
      have := (List.pairwise_cons.mp r4).1 x hx
      simp only at this
      omega
  · have := List.pairwise_cons.mp r4
    exact List.pairwise_cons.mpr ⟨fun y hy => this.1 y hy, this.2⟩
theorem Rep.objs (R : Rep Z n0 h (top, (a, q, ob) :: H)) : n0 ≤ a ∧ a + q < top ∧ ObjAt Z h a q ob := R.2.2.1 _ (List.mem_cons_self ..)
theorem Rep.putI {x : Int32} (hw : ∀ d ∈ tables_1, d.before a0 Z = true) (R : Rep Z n0 h (top, (a, q, ob) :: H)) (hk : K.2.1[k]? = some nd) (W : Wr h h' a (Jvm.RoadKit.slotOf Z K.1 nd.1 nd.2) (.int x)) : Rep Z n0 h' (top, (a, q, sI ob k x) :: H) :=
  R.upd W.size (R.2.1.wr W R.objs.1) (fun b hb => wr_ne W (by omega)) (R.objs.2.2.putI hw hk W)
theorem Rep.putA {x j : Int32} (R : Rep Z n0 h (top, (a, q, ob) :: H)) (hk : K.2.2[k]? = some t) (hq : k < q) (ht : t.2.1 ≠ .long) (hj : ¬ j < 0 ∧ j < t.2.2) (W : Wr h h' (a + 1 + k) j.toNatClampNeg (.int x)) : Rep Z n0 h' (top, (a, q, sA ob k j x) :: H) :=
  R.upd W.size (R.2.1.wr W (by have := R.objs.1; omega)) (fun b hb => wr_ne W (by omega)) (R.objs.2.2.putA hk hq hj W (el_sA ht j x) (fun k' t' ne => el_sA' j x k' t' ne) rfl)
theorem Rep.putJ {j : Int32} {x : Int64} (R : Rep Z n0 h (top, (a, q, ob) :: H)) (hk : K.2.2[k]? = some t) (hq : k < q) (ht : t.2.1 = .long) (hj : ¬ j < 0 ∧ j < t.2.2) (W : Wr h h' (a + 1 + k) j.toNatClampNeg (.long x)) : Rep Z n0 h' (top, (a, q, sJ ob k j x) :: H) :=
  R.upd W.size (R.2.1.wr W (by have := R.objs.1; omega)) (fun b hb => wr_ne W (by omega)) (R.objs.2.2.putA hk hq hj W (by rw [ht]; exact el_sJ j x) (fun k' t' ne => el_sJ' j x k' t' ne) rfl)
theorem Rep.swap {x y : Nat × Nat × Rec} (R : Rep Z n0 h (top, x :: y :: H)) : Rep Z n0 h (top, y :: x :: H) := by
  obtain ⟨r1, r2, r3, r4⟩ := R
  refine ⟨r1, r2, fun z hz => r3 z ?_, ?_⟩
  · simp only [List.mem_cons] at hz ⊢
    rcases hz with e | e | e
    · exact Or.inr (Or.inl e)
    · exact Or.inl e
    · exact Or.inr (Or.inr e)
  · simp only [List.pairwise_cons, List.mem_cons] at r4 ⊢
    obtain ⟨p1, p2, p3⟩ := r4
    refine ⟨fun z hz => ?_, fun z hz => p1 z (Or.inr hz), p3⟩
    rcases hz with rfl | hz
    · exact (p1 _ (Or.inl rfl)).symm
    · exact p2 z hz
theorem ObjAt.addA (hw : ∀ d ∈ tables_1, d.before a0 Z = true) (F : ObjAt Z h a k ob) (hk : K.2.2[k]? = some t) (A : ArrAt Z h (a + 1 + k) t.2.1 t.2.2 (el t.2.1 ob k)) (W : Wr h h' a (Jvm.RoadKit.slotOf Z K.1 t.1 (aD t.2.1)) (.ref (a + 1 + k))) : ObjAt Z h' a (k + 1) ob := by
  refine ⟨F.1.wr W, fun k' nd hk' => ?_, fun k' t' hk' hq => ?_, fun k' t' hk' hq => ?_⟩
  · obtain ⟨ty', hty'⟩ := pfS hk'
    exact (F.2.1 k' nd hk').other W (Or.inr (Jvm.RoadKit.slot_ne (laidS hw hk') (laidA hw hk) (nm_sa hk' hk) hty' (pfA hk)))
  · by_cases e : k' = k
    · subst e
      have et : t = t' := Option.some.inj (hk.symm.trans hk')
      subst et
      exact ⟨(F.2.2.2 k' t hk (Nat.le_refl _)).same W, arrAt_fr (wr_ne W (by omega)) A⟩
    · obtain ⟨f1, f2⟩ := F.2.2.1 k' t' hk' (by omega)
      exact ⟨f1.other W (Or.inr (Jvm.RoadKit.slot_ne (laidA hw hk') (laidA hw hk) (nm_aa hk' hk e) (pfA hk') (pfA hk))), arrAt_fr (wr_ne W (by omega)) f2⟩
  · exact (F.2.2.2 k' t' hk' (by omega)).other W (Or.inr (Jvm.RoadKit.slot_ne (laidA hw hk') (laidA hw hk) (nm_aa hk' hk (by omega)) (pfA hk') (pfA hk)))
theorem Rep.addA {h1 h2 : Heap} (hw : ∀ d ∈ tables_1, d.before a0 Z = true) (R : Rep Z n0 h (top, (a, k, ob) :: H)) (E : Ext h h1) (s1 : h1.size = top + 1) (htop : top = a + 1 + k) (hk : K.2.2[k]? = some t) (A : ArrAt Z h1 top t.2.1 t.2.2 (el t.2.1 ob k)) (W : Wr h1 h2 a (Jvm.RoadKit.slotOf Z K.1 t.1 (aD t.2.1)) (.ref top)) : Rep Z n0 h2 (top + 1, (a, k + 1, ob) :: H) := by
  obtain ⟨q1, q2, q3⟩ := R.objs
  have hp := List.pairwise_cons.mp R.2.2.2
  have hO : ObjAt Z h2 a (k + 1) ob := by
    subst htop
    exact (q3.ext E).addA hw hk A W
  refine ⟨W.size.trans s1, (R.2.1.ext E).wr W q1, List.forall_mem_cons.mpr ⟨⟨q1, ?_, hO⟩, fun x hx => ?_⟩, List.pairwise_cons.mpr ⟨fun y hy => ?_, hp.2⟩⟩
  · show a + (k + 1) < top + 1; omega
  · obtain ⟨p1, p2, p3⟩ := R.2.2.1 x (List.mem_cons_of_mem _ hx)
    have u1 : a + k < x.1 ∨ x.1 + x.2.1 < a := hp.1 x hx
    have u2 : x.1 + x.2.1 < top := p2
    exact ⟨p1, Nat.lt_succ_of_lt u2, (p3.ext E).frame fun b h1 h2 => wr_ne W (by omega)⟩
  · have u1 : a + k < y.1 ∨ y.1 + y.2.1 < a := hp.1 y hy
    have u2 : y.1 + y.2.1 < top := (R.2.2.1 y (List.mem_cons_of_mem _ hy)).2.1
    show a + (k + 1) < y.1 ∨ y.1 + y.2.1 < a
    omega
theorem arr_new {cA : ClassId} {ty : FieldType} {len : Int32} (A : Arr Z h b (newA cA ty len) ty) (hts : ty = .int ∨ ty = .boolean ∨ ty = .long) (hz : (∀ i, ob.2.1 k i = 0) ∧ (∀ i, ob.2.2 k i = 0)) : ArrAt Z h b ty len (el ty ob k) := by
  refine ⟨_, A, sz_new _ _ _, fun i h0 h1 => ?_⟩
  have hi : ¬ (i < 0 ∨ len.toNatClampNeg ≤ i.toNatClampNeg) := by
    have e0 : (0 : Int32).toInt = 0 := rfl
    simp only [Int32.lt_iff_toInt_lt, Int32.toNatClampNeg] at *
    omega
  rw [get_new hi]
  rcases hts with rfl | rfl | rfl
  · show some (Value.int 0) = some (Value.int (ob.2.1 k i)); rw [hz.1]
  · show some (Value.int 0) = some (Value.int (ob.2.1 k i)); rw [hz.1]
  · show some (Value.long 0) = some (Value.long (ob.2.2 k i)); rw [hz.2]
theorem Rep.start (s : State) : Rep s s.heap.size s.heap (s.heap.size, []) := ⟨rfl, Old.start s, fun x hx => (by cases hx), List.Pairwise.nil⟩
end Facts
/- bodies, decode facts, patterns of local variables -/
abbrev Bdy : Type := MethodName × ByteArray × Nat × Option FieldType × Room
def DAt (M : Bdy) (pc : Nat) (i : Instr) (n q : Nat) : Prop := decode M.2.1 pc = .ok (i, n) ∧ q = pc + n
abbrev Pat : Type := List (Option Slot)
abbrev vi (x : Int32) : Option Slot := some (.val (.int x))
abbrev vl (x : Int64) : Option Slot := some (.val (.long x))
abbrev vr (a : Nat) : Option Slot := some (.val (.ref a))
abbrev v2 : Option Slot := some .second
abbrev vn : Option Slot := none
def pget : Pat → Nat → Option Slot
  | [], _ => none
  | x :: _, 0 => x
  | _ :: l, n + 1 => pget l n
theorem pget_eq : ∀ (P : Pat) (i : Nat), pget P i = (P[i]?).join
  | [], _ => by simp [pget]
  | x :: l, 0 => by simp [pget]
  | x :: l, n + 1 => by simp [pget, pget_eq l n]
def pput : Pat → Nat → Option Slot → Pat
  | [], _, _ => []
  | _ :: l, 0, y => y :: l
  | x :: l, n + 1, y => x :: pput l n y
theorem pget_pput : ∀ (P : Pat) (i j : Nat) (y : Option Slot) (s : Slot), pget (pput P i y) j = some s → (j = i ∧ y = some s) ∨ (j ≠ i ∧ pget P j = some s)
  | [], _, _, _, _, h => by simp [pput, pget] at h
  | x :: l, 0, 0, y, s, h => Or.inl ⟨rfl, h⟩
  | x :: l, 0, j + 1, y, s, h => Or.inr ⟨by omega, h⟩
  | x :: l, i + 1, 0, y, s, h => Or.inr ⟨by omega, h⟩
  | x :: l, i + 1, j + 1, y, s, h => by
    rcases pget_pput l i j y s h with ⟨e, r⟩ | ⟨e, r⟩
    · exact Or.inl ⟨by omega, r⟩
    · exact Or.inr ⟨by omega, r⟩
/-- a two-word value whose first word is at i is forgotten -/
def pk1 (P : Pat) (i : Nat) : Pat := match pget P i with
  | some (.val (.long _)) => pput P i none
  | some (.val (.double _)) => pput P i none
  | _ => P
def pk2 (P : Pat) (i : Nat) : Pat := match pget P i with
  | some .second => pput P i none
  | _ => P
def pkp (P : Pat) : Nat → Pat
  | 0 => P
  | i + 1 => pk1 P i
def ps1 (P : Pat) (i : Nat) (v : Value) : Pat := pput (pk2 (pkp P i) (i + 1)) i (some (.val v))
def ps2 (P : Pat) (i : Nat) (v : Value) : Pat := pput (pput (pk2 (pkp P i) (i + 2)) i (some (.val v))) (i + 1) (some .second)
def WFl (L : Array Slot) : Prop := (∀ i : Nat, L[i]? = some .second → ∃ (j : Nat) (v : Value), i = j + 1 ∧ L[j]? = some (.val v) ∧ v.category = 2) ∧ (∀ (i : Nat) (v : Value), L[i]? = some (.val v) → v.category = 2 → L[i + 1]? = some .second)
def Fits (P : Pat) (L : Array Slot) : Prop := (∀ i s, pget P i = some s → L[i]? = some s) ∧ WFl L
theorem pk1_sub {P : Pat} {i j : Nat} {s : Slot} (h : pget (pk1 P i) j = some s) : pget P j = some s ∧ (j = i → ∀ w : Value, s = .val w → w.category = 1) := by
  unfold pk1 at h
  split at h
  · rcases pget_pput _ _ _ _ _ h with ⟨-, e⟩ | ⟨e, r⟩
    · cases e
    · exact ⟨r, fun q => absurd q e⟩
  · rcases pget_pput _ _ _ _ _ h with ⟨-, e⟩ | ⟨e, r⟩
    · cases e
    · exact ⟨r, fun q => absurd q e⟩
  · rename_i h1 h2
    refine ⟨h, fun q w e => ?_⟩
    subst q e
    cases w <;> first | rfl | exact absurd h (h1 _) | exact absurd h (h2 _)
theorem pk2_sub {P : Pat} {i j : Nat} {s : Slot} (h : pget (pk2 P i) j = some s) : pget P j = some s ∧ (j = i → s ≠ .second) := by
  unfold pk2 at h
  split at h
  · rcases pget_pput _ _ _ _ _ h with ⟨-, e⟩ | ⟨e, r⟩
    · cases e
    · exact ⟨r, fun q => absurd q e⟩
  · rename_i h1
    refine ⟨h, fun q e => ?_⟩
    subst q e; exact h1 h
theorem pkp_sub {P : Pat} {i j : Nat} {s : Slot} (h : pget (pkp P i) j = some s) : pget P j = some s ∧ (j + 1 = i → ∀ w : Value, s = .val w → w.category = 1) := by
  cases i with
  | zero => exact ⟨h, fun q => by omega⟩
  | succ i => obtain ⟨h1, h2⟩ := pk1_sub (show pget (pk1 P i) j = some s from h); exact ⟨h1, fun q => h2 (by omega)⟩
theorem setAt_eq {L : Array Slot} {i : Nat} {x : Slot} (hi : i < L.size) : Jvm.setAt L i x = some (L.setIfInBounds i x) := by simp [Jvm.setAt, hi]
theorem sl_second {L : Array Slot} {i : Nat} {v : Value} (ho : L[i]? = some .second) : storeLocals L i v = (Jvm.setAt L (i - 1) .unset).bind fun l => storeSelf l i v := by
  unfold storeLocals; rw [ho]; rfl
theorem sl_unset {L : Array Slot} {i : Nat} {v : Value} (ho : L[i]? = some .unset) : storeLocals L i v = storeSelf L i v := by
  unfold storeLocals; rw [ho]; rfl
theorem sl_val {L : Array Slot} {i : Nat} {v o : Value} (ho : L[i]? = some (.val o)) : storeLocals L i v = if o.category = 2 then (Jvm.setAt L (i + 1) .unset).bind fun l => storeSelf l i v else storeSelf L i v := by
  unfold storeLocals; rw [ho]; rfl
theorem ss_one {L : Array Slot} {i : Nat} {v : Value} (hi : i < L.size) (hv : ¬ v.category = 2) : storeSelf L i v = some (L.setIfInBounds i (.val v)) := by
  unfold storeSelf; rw [setAt_eq hi]; simp [hv]
theorem ss_two {L : Array Slot} {i : Nat} {v : Value} {o : Slot} (hi : i < L.size) (hv : v.category = 2) (ho : L[i + 1]? = some o) : storeSelf L i v = (match o with
    | .val old => if old.category = 2 then (Jvm.setAt (L.setIfInBounds i (.val v)) (i + 2) .unset).bind fun l => Jvm.setAt l (i + 1) .second else Jvm.setAt (L.setIfInBounds i (.val v)) (i + 1) .second
    | _ => Jvm.setAt (L.setIfInBounds i (.val v)) (i + 1) .second) := by
  have e : (L.setIfInBounds i (.val v))[i + 1]? = some o := by rw [Array.getElem?_setIfInBounds_ne (by omega)]; exact ho
  unfold storeSelf; rw [setAt_eq hi]
  show (if v.category = 2 then _ else _) = _
  rw [if_pos hv, e]
  cases o <;> rfl
theorem cat12 (v : Value) : v.category = 1 ∨ v.category = 2 := by cases v <;> first | exact Or.inl rfl | exact Or.inr rfl
/-- a one-word store: what stands elsewhere stays, but for the halves of a two-word value that it breaks -/
theorem store_one {L : Array Slot} {i : Nat} {v : Value} (hW : WFl L) (hi : i < L.size) (hv : v.category = 1) :
    ∃ L', storeLocals L i v = some L' ∧ L'.size = L.size ∧ WFl L' ∧ L'[i]? = some (.val v) ∧ ∀ j, j ≠ i → L'[j]? = L[j]? ∨ (j + 1 = i ∧ L[i]? = some .second) ∨ (j = i + 1 ∧ L[j]? = some .second) := by
  have hv2 : ¬ v.category = 2 := by omega
  cases ho : L[i]? with
  | none => rw [Array.getElem?_eq_none_iff] at ho; omega
  | some o =>
    cases o with
    | unset =>
      refine ⟨L.setIfInBounds i (.val v), ?_, by simp, ?_, by simp [hi], fun j hj => Or.inl (Array.getElem?_setIfInBounds_ne (Ne.symm hj))⟩
      · rw [sl_unset ho, ss_one hi hv2]
      · refine ⟨fun j hj => ?_, fun j w hj hw => ?_⟩
        · by_cases e : j = i
          · subst e; simp [hi] at hj
          · rw [Array.getElem?_setIfInBounds_ne (Ne.symm e)] at hj
            obtain ⟨j', w, e1, e2, e3⟩ := hW.1 j hj
            refine ⟨j', w, e1, ?_, e3⟩
            rw [Array.getElem?_setIfInBounds_ne]; exact e2
            intro q; subst q; rw [ho] at e2; cases e2
        · by_cases e : j = i
          · subst e; simp [hi] at hj; subst hj; omega
          · rw [Array.getElem?_setIfInBounds_ne (Ne.symm e)] at hj
            have := hW.2 j w hj hw
            rw [Array.getElem?_setIfInBounds_ne]; exact this
            intro q; subst q; rw [ho] at this; cases this
    | second =>
      obtain ⟨j0, w0, rfl, f2, f3⟩ := hW.1 i ho
      have hj0 : j0 < L.size := by omega
      refine ⟨(L.setIfInBounds j0 .unset).setIfInBounds (j0 + 1) (.val v), ?_, by simp, ?_, by simp [hi], fun j hj => ?_⟩
      · rw [sl_second ho, show j0 + 1 - 1 = j0 from rfl, setAt_eq hj0]; exact ss_one (by simpa using hi) hv2
      · refine ⟨fun j hj => ?_, fun j w hj hw => ?_⟩
        · by_cases e : j = j0 + 1
          · subst e; simp [hi] at hj
          · rw [Array.getElem?_setIfInBounds_ne (Ne.symm e)] at hj
            by_cases e' : j = j0
            · subst e'; simp [hj0] at hj
            · rw [Array.getElem?_setIfInBounds_ne (Ne.symm e')] at hj
              obtain ⟨j', w, e1, e2, e3⟩ := hW.1 j hj
              refine ⟨j', w, e1, ?_, e3⟩
              rw [Array.getElem?_setIfInBounds_ne, Array.getElem?_setIfInBounds_ne]
              · exact e2
              · intro q; subst q; omega
              · intro q; subst q; rw [ho] at e2; cases e2
        · by_cases e : j = j0 + 1
          · subst e; simp [hi] at hj; subst hj; omega
          · rw [Array.getElem?_setIfInBounds_ne (Ne.symm e)] at hj
            by_cases e' : j = j0
            · subst e'; simp [hj0] at hj
            · rw [Array.getElem?_setIfInBounds_ne (Ne.symm e')] at hj
              have := hW.2 j w hj hw
              rw [Array.getElem?_setIfInBounds_ne, Array.getElem?_setIfInBounds_ne]
              · exact this
              · intro q; subst q; rw [f2] at this; cases this
              · omega
      · by_cases e' : j = j0
        · exact Or.inr (Or.inl ⟨by omega, rfl⟩)
        · left; rw [Array.getElem?_setIfInBounds_ne (Ne.symm hj), Array.getElem?_setIfInBounds_ne (Ne.symm e')]
    | val old =>
      by_cases hc : old.category = 2
      · have f2 := hW.2 i old ho hc
        have hi1 : i + 1 < L.size := (Array.getElem?_eq_some_iff.mp f2).1
        refine ⟨(L.setIfInBounds (i + 1) .unset).setIfInBounds i (.val v), ?_, by simp, ?_, by simp [hi], fun j hj => ?_⟩
        · rw [sl_val ho, if_pos hc, setAt_eq hi1]; exact ss_one (by simpa using hi) hv2
        · refine ⟨fun j hj => ?_, fun j w hj hw => ?_⟩
          · by_cases e : j = i
            · subst e; simp [hi] at hj
            · rw [Array.getElem?_setIfInBounds_ne (Ne.symm e)] at hj
              by_cases e' : j = i + 1
              · subst e'; simp [hi1] at hj
              · rw [Array.getElem?_setIfInBounds_ne (Ne.symm e')] at hj
                obtain ⟨j', w, e1, e2, e3⟩ := hW.1 j hj
                refine ⟨j', w, e1, ?_, e3⟩
                rw [Array.getElem?_setIfInBounds_ne, Array.getElem?_setIfInBounds_ne]
                · exact e2
                · intro q; subst q; rw [f2] at e2; cases e2
                · omega
          · by_cases e : j = i
            · subst e; simp [hi] at hj; subst hj; omega
            · rw [Array.getElem?_setIfInBounds_ne (Ne.symm e)] at hj
              by_cases e' : j = i + 1
              · subst e'; simp [hi1] at hj
              · rw [Array.getElem?_setIfInBounds_ne (Ne.symm e')] at hj
                have := hW.2 j w hj hw
                rw [Array.getElem?_setIfInBounds_ne, Array.getElem?_setIfInBounds_ne]
                · exact this
                · omega
                · intro q; subst q; rw [ho] at this; cases this
        · by_cases e' : j = i + 1
          · subst e'; exact Or.inr (Or.inr ⟨rfl, f2⟩)
          · left; rw [Array.getElem?_setIfInBounds_ne (Ne.symm hj), Array.getElem?_setIfInBounds_ne (Ne.symm e')]
      · refine ⟨L.setIfInBounds i (.val v), ?_, by simp, ?_, by simp [hi], fun j hj => Or.inl (Array.getElem?_setIfInBounds_ne (Ne.symm hj))⟩
        · rw [sl_val ho, if_neg hc, ss_one hi hv2]
        · refine ⟨fun j hj => ?_, fun j w hj hw => ?_⟩
          · by_cases e : j = i
            · subst e; simp [hi] at hj
            · rw [Array.getElem?_setIfInBounds_ne (Ne.symm e)] at hj
              obtain ⟨j', w, e1, e2, e3⟩ := hW.1 j hj
              refine ⟨j', w, e1, ?_, e3⟩
              rw [Array.getElem?_setIfInBounds_ne]; exact e2
              intro q; subst q; rw [ho] at e2; cases e2; omega
          · by_cases e : j = i
            · subst e; simp [hi] at hj; subst hj; omega
            · rw [Array.getElem?_setIfInBounds_ne (Ne.symm e)] at hj
              have := hW.2 j w hj hw
              rw [Array.getElem?_setIfInBounds_ne]; exact this
              intro q; subst q; rw [ho] at this; cases this
theorem Fits.store1 {P : Pat} {L : Array Slot} {i : Nat} {v : Value} (h : Fits P L) (hi : i < L.size) (hv : v.category = 1) :
    ∃ L', storeLocals L i v = some L' ∧ L'.size = L.size ∧ Fits (ps1 P i v) L' := by
  obtain ⟨L', e1, e2, e3, e4, e5⟩ := store_one h.2 hi hv
  refine ⟨L', e1, e2, fun j s hj => ?_, e3⟩
  rcases pget_pput _ _ _ _ _ hj with ⟨rfl, q⟩ | ⟨ne, q⟩
  · rw [e4]; exact q
  · obtain ⟨q1, q2⟩ := pk2_sub q
    obtain ⟨q3, q4⟩ := pkp_sub q1
    have hL := h.1 j s q3
    rcases e5 j ne with r | ⟨r1, r2⟩ | ⟨r1, r2⟩
    · rw [r]; exact hL
    · obtain ⟨j', w, z1, z2, z3⟩ := h.2.1 i r2
      have : j' = j := by omega
      subst this
      rw [hL] at z2; cases z2
      have := q4 r1 w rfl; omega
    · rw [hL] at r2; cases r2
      exact absurd rfl (q2 r1)
theorem st_ph1 {L : Array Slot} {i : Nat} {v : Value} (hW : WFl L) (hi : i + 1 < L.size) :
    ∃ A : Array Slot, storeLocals L i v = storeSelf A i v ∧ A.size = L.size ∧ (∀ j, j ≠ i → j ≠ i + 1 → A[j]? = L[j]? ∨ (j + 1 = i ∧ L[i]? = some .second ∧ A[j]? = some .unset)) ∧ (A[i + 1]? = L[i + 1]? ∨ (A[i + 1]? = some .unset ∧ L[i + 1]? = some .second)) ∧ (L[i]? = some .second → ∀ j, j + 1 = i → A[j]? = some .unset) := by
  have hi0 : i < L.size := by omega
  cases ho : L[i]? with
  | none => rw [Array.getElem?_eq_none_iff] at ho; omega
  | some o =>
    cases o with
    | unset => exact ⟨L, sl_unset ho, rfl, fun j _ _ => Or.inl rfl, Or.inl rfl, fun q => by cases q⟩
    | second =>
      obtain ⟨j0, w0, rfl, f2, f3⟩ := hW.1 i ho
      have hj0 : j0 < L.size := by omega
      refine ⟨L.setIfInBounds j0 .unset, by rw [sl_second ho, show j0 + 1 - 1 = j0 from rfl, setAt_eq hj0]; rfl, by simp, fun j h1 h2 => ?_, Or.inl (Array.getElem?_setIfInBounds_ne (by omega)), fun _ j hj => ?_⟩
      · by_cases e : j = j0
        · subst e; exact Or.inr ⟨rfl, rfl, by simp [hj0]⟩
        · exact Or.inl (Array.getElem?_setIfInBounds_ne (Ne.symm e))
      · have : j = j0 := by omega
        subst this; simp [hj0]
    | val old =>
      by_cases hc : old.category = 2
      · refine ⟨L.setIfInBounds (i + 1) .unset, by rw [sl_val ho, if_pos hc, setAt_eq hi]; rfl, by simp, fun j h1 h2 => Or.inl (Array.getElem?_setIfInBounds_ne (Ne.symm h2)), Or.inr ⟨by simp [hi], hW.2 i old ho hc⟩, fun q => by cases q⟩
      · exact ⟨L, by rw [sl_val ho, if_neg hc], rfl, fun j _ _ => Or.inl rfl, Or.inl rfl, fun q => by cases q⟩
theorem st_ph2 {A : Array Slot} {i : Nat} {v : Value} (hi : i + 1 < A.size) (hv : v.category = 2) (hn : ∀ w : Value, A[i + 1]? = some (.val w) → w.category = 2 → i + 2 < A.size) :
    ∃ L', storeSelf A i v = some L' ∧ L'.size = A.size ∧ L'[i]? = some (.val v) ∧ L'[i + 1]? = some .second ∧ (∀ j, j ≠ i → j ≠ i + 1 → L'[j]? = A[j]? ∨ (j = i + 2 ∧ L'[j]? = some .unset ∧ ∃ w : Value, A[i + 1]? = some (.val w) ∧ w.category = 2)) ∧ ((∃ w : Value, A[i + 1]? = some (.val w) ∧ w.category = 2) → L'[i + 2]? = some .unset) := by
  have hi0 : i < A.size := by omega
  have eB : (A.setIfInBounds i (.val v))[i + 1]? = A[i + 1]? := Array.getElem?_setIfInBounds_ne (by omega)
  have plain : (∀ w : Value, A[i + 1]? = some (.val w) → w.category ≠ 2) → storeSelf A i v = some ((A.setIfInBounds i (.val v)).setIfInBounds (i + 1) .second) := fun hq => by
    cases ho : A[i + 1]? with
    | none => rw [Array.getElem?_eq_none_iff] at ho; omega
    | some o => cases o with
      | unset => rw [ss_two hi0 hv ho]; exact setAt_eq (by simpa using hi)
      | second => rw [ss_two hi0 hv ho]; exact setAt_eq (by simpa using hi)
      | val w => have := hq w ho; rw [ss_two hi0 hv ho]; simp only [if_neg this]; exact setAt_eq (by simpa using hi)
  by_cases hw : ∃ w : Value, A[i + 1]? = some (.val w) ∧ w.category = 2
  · obtain ⟨w, h1, h2⟩ := hw
    have h3 := hn w h1 h2
    refine ⟨((A.setIfInBounds i (.val v)).setIfInBounds (i + 2) .unset).setIfInBounds (i + 1) .second, by rw [ss_two hi0 hv h1]; simp only [if_pos h2]; rw [setAt_eq (by simpa using h3)]; exact setAt_eq (by simpa using hi), by simp, ?_, by simp [hi], fun j a b => ?_, fun _ => ?_⟩
    · rw [Array.getElem?_setIfInBounds_ne (by omega), Array.getElem?_setIfInBounds_ne (by omega)]; simp [hi0]
    · rw [Array.getElem?_setIfInBounds_ne (by omega)]
      by_cases e : j = i + 2
      · subst e; exact Or.inr ⟨rfl, by simp [h3], w, h1, h2⟩
      · left; rw [Array.getElem?_setIfInBounds_ne (by omega), Array.getElem?_setIfInBounds_ne (by omega)]
    · rw [Array.getElem?_setIfInBounds_ne (by omega)]; simp [h3]
  · refine ⟨_, plain fun w h1 h2 => hw ⟨w, h1, h2⟩, by simp, ?_, by simp [hi], fun j a b => Or.inl ?_, fun q => absurd q hw⟩
    · rw [Array.getElem?_setIfInBounds_ne (by omega)]; simp [hi0]
    · rw [Array.getElem?_setIfInBounds_ne (by omega), Array.getElem?_setIfInBounds_ne (by omega)]
theorem store_two {L : Array Slot} {i : Nat} {v : Value} (hW : WFl L) (hi : i + 1 < L.size) (hv : v.category = 2) :
    ∃ L', storeLocals L i v = some L' ∧ L'.size = L.size ∧ WFl L' ∧ L'[i]? = some (.val v) ∧ L'[i + 1]? = some .second ∧ ∀ j, j ≠ i → j ≠ i + 1 → L'[j]? = L[j]? ∨ (j + 1 = i ∧ L[i]? = some .second) ∨ (j = i + 2 ∧ L[j]? = some .second) := by
  obtain ⟨A, a1, a2, a3, a4, a5⟩ := st_ph1 (v := v) hW hi
  have a6 : ∀ w : Value, A[i + 1]? = some (.val w) → w.category = 2 → L[i + 2]? = some .second := fun w h1 h2 => by
    rcases a4 with e | ⟨e, -⟩
    · rw [e] at h1; exact hW.2 _ _ h1 h2
    · rw [e] at h1; cases h1
  obtain ⟨L', b1, b2, b3, b4, b5, b6⟩ := st_ph2 (A := A) (i := i) (v := v) (by omega) hv (fun w h1 h2 => by have := (Array.getElem?_eq_some_iff.mp (a6 w h1 h2)).1; omega)
  have c : ∀ j, j ≠ i → j ≠ i + 1 → L'[j]? = L[j]? ∨ (j + 1 = i ∧ L[i]? = some .second ∧ L'[j]? = some .unset) ∨ (j = i + 2 ∧ L[j]? = some .second ∧ L'[j]? = some .unset) := fun j h1 h2 => by
    rcases b5 j h1 h2 with e | ⟨e1, e2, w, e3, e4⟩
    · rcases a3 j h1 h2 with r | ⟨r1, r2, r3⟩
      · exact Or.inl (e.trans r)
      · exact Or.inr (Or.inl ⟨r1, r2, e.trans r3⟩)
    · subst e1; exact Or.inr (Or.inr ⟨rfl, a6 w e3 e4, e2⟩)
  have cs : L[i]? = some .second → ∀ j, j + 1 = i → L'[j]? = some .unset := fun q j hj => by
    rcases b5 j (by omega) (by omega) with e | ⟨e1, -⟩
    · exact e.trans (a5 q j hj)
    · omega
  have c2 : L[i + 2]? = some .second → L'[i + 2]? = some .unset := fun q => by
    obtain ⟨j', w, z1, z2, z3⟩ := hW.1 _ q
    have : j' = i + 1 := by omega
    subst this
    rcases a4 with e | ⟨-, e⟩
    · exact b6 ⟨w, e.trans z2, z3⟩
    · rw [e] at z2; cases z2
  refine ⟨L', a1.trans b1, b2.trans a2, ⟨fun j hj => ?_, fun j w hj hw => ?_⟩, b3, b4, fun j h1 h2 => ?_⟩
  · by_cases e0 : j = i
    · subst e0; rw [b3] at hj; cases hj
    by_cases e1 : j = i + 1
    · exact ⟨i, v, e1, b3, hv⟩
    rcases c j e0 e1 with r | ⟨-, -, r⟩ | ⟨-, -, r⟩
    · rw [r] at hj
      obtain ⟨j', w, z1, z2, z3⟩ := hW.1 j hj
      refine ⟨j', w, z1, ?_, z3⟩
      have n0 : j' ≠ i := by omega
      by_cases n1 : j' = i + 1
      · have : j = i + 2 := by omega
        subst this
        rw [c2 hj] at r; rw [hj] at r; cases r
      rcases c j' n0 n1 with u | ⟨u, -, -⟩ | ⟨-, u, -⟩
      · exact u.trans z2
      · omega
      · rw [z2] at u; cases u
    · rw [r] at hj; cases hj
    · rw [r] at hj; cases hj
  · by_cases e0 : j = i
    · subst e0; exact b4
    by_cases e1 : j = i + 1
    · subst e1; rw [b4] at hj; cases hj
    rcases c j e0 e1 with r | ⟨-, -, r⟩ | ⟨-, -, r⟩
    · have hj' := hj
      rw [r] at hj
      have z := hW.2 j w hj hw
      by_cases n0 : j + 1 = i
      · subst n0; rw [cs z j rfl] at hj'; cases hj'
      by_cases n1 : j + 1 = i + 1
      · omega
      rcases c (j + 1) n0 n1 with u | ⟨u1, u2, -⟩ | ⟨u, -, -⟩
      · exact u.trans z
      · obtain ⟨j', w', y1, y2, y3⟩ := hW.1 i u2
        have : j' = j + 1 := by omega
        subst this; rw [z] at y2; cases y2
      · omega
    · rw [r] at hj; cases hj
    · rw [r] at hj; cases hj
  · rcases c j h1 h2 with r | ⟨r1, r2, -⟩ | ⟨r1, r2, -⟩
    · exact Or.inl r
    · exact Or.inr (Or.inl ⟨r1, r2⟩)
    · exact Or.inr (Or.inr ⟨r1, r2⟩)
theorem Fits.store2 {P : Pat} {L : Array Slot} {i : Nat} {v : Value} (h : Fits P L) (hi : i + 1 < L.size) (hv : v.category = 2) :
    ∃ L', storeLocals L i v = some L' ∧ L'.size = L.size ∧ Fits (ps2 P i v) L' := by
  obtain ⟨L', e1, e2, e3, e4, e4', e5⟩ := store_two h.2 hi hv
  refine ⟨L', e1, e2, fun j s hj => ?_, e3⟩
  rcases pget_pput _ _ _ _ _ hj with ⟨rfl, q⟩ | ⟨ne, q⟩
  · rw [e4']; exact q
  rcases pget_pput _ _ _ _ _ q with ⟨rfl, q'⟩ | ⟨ne', q'⟩
  · rw [e4]; exact q'
  obtain ⟨q1, q2⟩ := pk2_sub q'
  obtain ⟨q3, q4⟩ := pkp_sub q1
  have hL := h.1 j s q3
  rcases e5 j ne' ne with r | ⟨r1, r2⟩ | ⟨r1, r2⟩
  · rw [r]; exact hL
  · obtain ⟨j', w, z1, z2, z3⟩ := h.2.1 i r2
    have : j' = j := by omega
    subst this
    rw [hL] at z2; cases z2
    have := q4 r1 w rfl; omega
  · rw [hL] at r2; cases r2
    exact absurd rfl (q2 r1)
/- what a body does from a place on -/
def Runs (C : Ctx) (M : Bdy) (k n pc : Nat) (P : Pat) (S : List Value) (G : AH) (Q : Option Value → AH → Prop) : Prop :=
  Ok C → ∀ (p : Program) (e : Env) (s : State) (m : MethodId) (args : Array Value) (below : List Frame) (meth : Method) (c : Code) (T : State) (locs : List Loc) (L : Array Slot),
    p.tables.exec = Jvm.exec → c.code = M.2.1 → c.maxLocals = M.2.2.1 → meth.sig.returnType = M.2.2.2.1 → meth.name = M.1.name → s.vm.findClass M.1.cls = some m.cls → C.2.1.Warmed39 s.vm →
    Fits P L → L.size = M.2.2.1 → Stand p C.1 e M.2.2.2.2 s m args below meth c T locs k n → Rep C.2.1 C.2.2.1 T.heap G → Fr C.2.2.1 locs →
    ∃ (T' : State) (locs' : List Loc) (k' n' : Nat) (r : Option Value) (G' : AH), Stand p C.1 e M.2.2.2.2 s m args below meth c T' locs' k' n' ∧ k' ≤ M.2.2.2.2.cells ∧ n' ≤ M.2.2.2.2.slots ∧ Rep C.2.1 C.2.2.1 T'.heap G' ∧ Fr C.2.2.1 locs' ∧ Q r G' ∧
      (M.2.2.2.1 = none → r = none) ∧
      ∀ fs : List Frame, (∀ (f : JFrame) (acts : List Action), f.method = m → f.locked = none → f.entered = [] → (doReturn e (T'.setTop f) acts r).1 = T'.setFrames fs) → Steps p.tables e below (T.setTop (mkF m pc L S)) (T'.setFrames fs)
section Rules
variable {C : Ctx} {M : Bdy} {k n pc q : Nat} {P P' : Pat} {S S' : List Value} {G : AH} {Q : Option Value → AH → Prop}
/-- a step that leaves the heap alone -/
theorem Runs.pure {i : Instr} {len : Nat} (d : DAt M pc i len q) {pc' : Nat}
    (st : ∀ (p : Program) (e : Env) (s : State) (m : MethodId) (args : Array Value) (below : List Frame) (meth : Method) (c : Code) (T : State) (locs : List Loc) (L : Array Slot), Ok C → p.tables.exec = Jvm.exec → s.vm.findClass M.1.cls = some m.cls → C.2.1.Warmed39 s.vm → decode c.code pc = .ok (i, len) → Fits P L → L.size = M.2.2.1 → Rep C.2.1 C.2.2.1 T.heap G →
      Stand p C.1 e M.2.2.2.2 s m args below meth c T locs k n → ∃ L', Fits P' L' ∧ L'.size = M.2.2.1 ∧ ∀ t, Steps p.tables e below (T.setTop (mkF m pc' L' S')) t → Steps p.tables e below (T.setTop (mkF m pc L S)) t)
    (h : Runs C M k n pc' P' S' G Q) : Runs C M k n pc P S G Q := by
  intro hw p e s m args below meth c T locs L hx hby hml hret hnm hown hZ hP hsz X hR hF
  obtain ⟨L', f1, f2, f3⟩ := st p e s m args below meth c T locs L hw hx hown hZ (hb hby d.1) hP hsz hR X
  obtain ⟨T', locs', k', n', r, G', g1, g2, g3, g4, g5, g6, g7, g8⟩ := h hw p e s m args below meth c T locs L' hx hby hml hret hnm hown hZ f1 f2 X hR hF
  exact ⟨T', locs', k', n', r, G', g1, g2, g3, g4, g5, g6, g7, fun fs hr => f3 _ (g8 fs hr)⟩
/-- a step that keeps the locals and what the heap says -/
theorem Runs.stk {i : Instr} {len : Nat} (d : DAt M pc i len q)
    (st : ∀ (p : Program) (e : Env) (s : State) (m : MethodId) (args : Array Value) (below : List Frame) (meth : Method) (c : Code) (T : State) (locs : List Loc) (L : Array Slot), p.tables.exec = Jvm.exec → decode c.code pc = .ok (i, len) → Fits P L →
      Stand p C.1 e M.2.2.2.2 s m args below meth c T locs k n → ∀ t, Steps p.tables e below (T.setTop (mkF m (pc + len) L S')) t → Steps p.tables e below (T.setTop (mkF m pc L S)) t)
    (h : Runs C M k n q P S' G Q) : Runs C M k n pc P S G Q := by
  have hq := d.2
  subst hq
  exact Runs.pure d (fun p e s m args below meth c T locs L _ hx _ _ hd hP hsz _ X => ⟨L, hP, hsz, st p e s m args below meth c T locs L hx hd hP X⟩) h
theorem Runs.iloadN {j : Fin 4} {v : Int32} (d : DAt M pc (.iload_n j) 1 q) (hl : pget P j.val = vi v) (h : Runs C M k n q P (.int v :: S) G Q) : Runs C M k n pc P S G Q :=
  Runs.stk d (fun p e s m args below meth c T locs L hx hd hP X t r => XS.iloadN (g := mkF m pc L S) X.here hx rfl hd (hP.1 _ _ hl) r) h
theorem Runs.iload {j : Nat} {v : Int32} (d : DAt M pc (.iload j) 2 q) (hl : pget P j = vi v) (h : Runs C M k n q P (.int v :: S) G Q) : Runs C M k n pc P S G Q :=
  Runs.stk d (fun p e s m args below meth c T locs L hx hd hP X t r => XS.iload (g := mkF m pc L S) X.here hx rfl hd (hP.1 _ _ hl) r) h
theorem Runs.lloadN {j : Fin 4} {v : Int64} (d : DAt M pc (.lload_n j) 1 q) (hl : pget P j.val = vl v) (h : Runs C M k n q P (.long v :: S) G Q) : Runs C M k n pc P S G Q :=
  Runs.stk d (fun p e s m args below meth c T locs L hx hd hP X t r => XS.lloadN (g := mkF m pc L S) X.here hx rfl hd (hP.1 _ _ hl) r) h
theorem Runs.lload {j : Nat} {v : Int64} (d : DAt M pc (.lload j) 2 q) (hl : pget P j = vl v) (h : Runs C M k n q P (.long v :: S) G Q) : Runs C M k n pc P S G Q :=
  Runs.stk d (fun p e s m args below meth c T locs L hx hd hP X t r => XS.lload (g := mkF m pc L S) X.here hx rfl hd (hP.1 _ _ hl) r) h
theorem Runs.aloadN {j : Fin 4} {v : Nat} (d : DAt M pc (.aload_n j) 1 q) (hl : pget P j.val = vr v) (h : Runs C M k n q P (.ref v :: S) G Q) : Runs C M k n pc P S G Q :=
  Runs.stk d (fun p e s m args below meth c T locs L hx hd hP X t r => XS.aloadN (g := mkF m pc L S) X.here hx rfl hd (hP.1 _ _ hl) rfl r) h
theorem Runs.aload {j : Nat} {v : Nat} (d : DAt M pc (.aload j) 2 q) (hl : pget P j = vr v) (h : Runs C M k n q P (.ref v :: S) G Q) : Runs C M k n pc P S G Q :=
  Runs.stk d (fun p e s m args below meth c T locs L hx hd hP X t r => XS.aload (g := mkF m pc L S) X.here hx rfl hd (hP.1 _ _ hl) rfl r) h
theorem Runs.iconst {i : Int} {v : Int32} (d : DAt M pc (.iconst i) 1 q) (hv : Int32.ofInt i = v) (h : Runs C M k n q P (.int v :: S) G Q) : Runs C M k n pc P S G Q :=
  Runs.stk d (fun p e s m args below meth c T locs L hx hd hP X t r => XS.iconst (g := mkF m pc L S) X.here hx rfl hd (by rw [hv]; exact r)) h
theorem Runs.bipush {i : Int} {v : Int32} (d : DAt M pc (.bipush i) 2 q) (hv : (Int8.ofInt i).toInt32 = v) (h : Runs C M k n q P (.int v :: S) G Q) : Runs C M k n pc P S G Q :=
  Runs.stk d (fun p e s m args below meth c T locs L hx hd hP X t r => XS.bipush (g := mkF m pc L S) X.here hx rfl hd (by rw [hv]; exact r)) h
theorem Runs.sipush {i : Int} {v : Int32} (d : DAt M pc (.sipush i) 3 q) (hv : (Int16.ofInt i).toInt32 = v) (h : Runs C M k n q P (.int v :: S) G Q) : Runs C M k n pc P S G Q :=
  Runs.stk d (fun p e s m args below meth c T locs L hx hd hP X t r => XS.sipush (g := mkF m pc L S) X.here hx rfl hd (by rw [hv]; exact r)) h
theorem Runs.lconst {i : Fin 2} {v : Int64} (d : DAt M pc (.lconst i) 1 q) (hv : Int64.ofNat i = v) (h : Runs C M k n q P (.long v :: S) G Q) : Runs C M k n pc P S G Q :=
  Runs.stk d (fun p e s m args below meth c T locs L hx hd hP X t r => Jvm.Free.XT.lconstV (g := mkF m pc L S) X.here hx rfl v hd hv r) h
theorem Runs.ldc {i : Nat} {v : Int32} (d : DAt M pc (.ldc i) 2 q) (w : Jvm.Cond.constant M.1.cls i v ∈ tables_1) (h : Runs C M k n q P (.int v :: S) G Q) : Runs C M k n pc P S G Q := by
  have hq := d.2
  subst hq
  exact Runs.pure d (fun p e s m args below meth c T locs L hw hx hown hZ hd hP hsz _ X => ⟨L, hP, hsz, fun t r => X.ldcInt hx hown (mvT hZ (hw _ w)) (g := mkF m pc L S) rfl hd t r⟩) h
theorem Runs.ldc2 {i : Nat} {v : Int64} (d : DAt M pc (.ldc2_w i) 3 q) (w : Jvm.Cond.constantLong M.1.cls i v ∈ tables_1) (h : Runs C M k n q P (.long v :: S) G Q) : Runs C M k n pc P S G Q := by
  have hq := d.2
  subst hq
  exact Runs.pure d (fun p e s m args below meth c T locs L hw hx hown hZ hd hP hsz _ X => ⟨L, hP, hsz, fun t r => X.ldc2Long hx hown (mvT hZ (hw _ w)) (g := mkF m pc L S) rfl hd t r⟩) h
theorem Runs.iadd {x y : Int32} (d : DAt M pc .iadd 1 q) (h : Runs C M k n q P (.int (x + y) :: S) G Q) : Runs C M k n pc P (.int y :: .int x :: S) G Q :=
  Runs.stk d (fun p e s m args below meth c T locs L hx hd hP X t r => XS.iadd (g := mkF m pc L (.int y :: .int x :: S)) X.here hx rfl hd rfl r) h
theorem Runs.isub {x y : Int32} (d : DAt M pc .isub 1 q) (h : Runs C M k n q P (.int (x - y) :: S) G Q) : Runs C M k n pc P (.int y :: .int x :: S) G Q :=
  Runs.stk d (fun p e s m args below meth c T locs L hx hd hP X t r => XS.isub (g := mkF m pc L (.int y :: .int x :: S)) X.here hx rfl hd rfl r) h
theorem Runs.imul {x y : Int32} (d : DAt M pc .imul 1 q) (h : Runs C M k n q P (.int (x * y) :: S) G Q) : Runs C M k n pc P (.int y :: .int x :: S) G Q :=
  Runs.stk d (fun p e s m args below meth c T locs L hx hd hP X t r => XS.imul (g := mkF m pc L (.int y :: .int x :: S)) X.here hx rfl hd rfl r) h
theorem Runs.iand {x y : Int32} (d : DAt M pc .iand 1 q) (h : Runs C M k n q P (.int (x &&& y) :: S) G Q) : Runs C M k n pc P (.int y :: .int x :: S) G Q :=
  Runs.stk d (fun p e s m args below meth c T locs L hx hd hP X t r => XS.iand (g := mkF m pc L (.int y :: .int x :: S)) X.here hx rfl hd rfl r) h
theorem Runs.ior {x y : Int32} (d : DAt M pc .ior 1 q) (h : Runs C M k n q P (.int (x ||| y) :: S) G Q) : Runs C M k n pc P (.int y :: .int x :: S) G Q :=
  Runs.stk d (fun p e s m args below meth c T locs L hx hd hP X t r => XS.ior (g := mkF m pc L (.int y :: .int x :: S)) X.here hx rfl hd rfl r) h
theorem Runs.ixor {x y : Int32} (d : DAt M pc .ixor 1 q) (h : Runs C M k n q P (.int (x ^^^ y) :: S) G Q) : Runs C M k n pc P (.int y :: .int x :: S) G Q :=
  Runs.stk d (fun p e s m args below meth c T locs L hx hd hP X t r => XS.ixor (g := mkF m pc L (.int y :: .int x :: S)) X.here hx rfl hd rfl r) h
theorem Runs.ladd {x y : Int64} (d : DAt M pc .ladd 1 q) (h : Runs C M k n q P (.long (x + y) :: S) G Q) : Runs C M k n pc P (.long y :: .long x :: S) G Q :=
  Runs.stk d (fun p e s m args below meth c T locs L hx hd hP X t r => XS.ladd (g := mkF m pc L (.long y :: .long x :: S)) X.here hx rfl hd rfl r) h
theorem Runs.lsub {x y : Int64} (d : DAt M pc .lsub 1 q) (h : Runs C M k n q P (.long (x - y) :: S) G Q) : Runs C M k n pc P (.long y :: .long x :: S) G Q :=
  Runs.stk d (fun p e s m args below meth c T locs L hx hd hP X t r => XS.lsub (g := mkF m pc L (.long y :: .long x :: S)) X.here hx rfl hd rfl r) h
theorem Runs.lmul {x y : Int64} (d : DAt M pc .lmul 1 q) (h : Runs C M k n q P (.long (x * y) :: S) G Q) : Runs C M k n pc P (.long y :: .long x :: S) G Q :=
  Runs.stk d (fun p e s m args below meth c T locs L hx hd hP X t r => XS.lmul (g := mkF m pc L (.long y :: .long x :: S)) X.here hx rfl hd rfl r) h
theorem Runs.land {x y : Int64} (d : DAt M pc .land 1 q) (h : Runs C M k n q P (.long (x &&& y) :: S) G Q) : Runs C M k n pc P (.long y :: .long x :: S) G Q :=
  Runs.stk d (fun p e s m args below meth c T locs L hx hd hP X t r => XS.land (g := mkF m pc L (.long y :: .long x :: S)) X.here hx rfl hd rfl r) h
theorem Runs.lor {x y : Int64} (d : DAt M pc .lor 1 q) (h : Runs C M k n q P (.long (x ||| y) :: S) G Q) : Runs C M k n pc P (.long y :: .long x :: S) G Q :=
  Runs.stk d (fun p e s m args below meth c T locs L hx hd hP X t r => XS.lor (g := mkF m pc L (.long y :: .long x :: S)) X.here hx rfl hd rfl r) h
theorem Runs.lxor {x y : Int64} (d : DAt M pc .lxor 1 q) (h : Runs C M k n q P (.long (x ^^^ y) :: S) G Q) : Runs C M k n pc P (.long y :: .long x :: S) G Q :=
  Runs.stk d (fun p e s m args below meth c T locs L hx hd hP X t r => XS.lxor (g := mkF m pc L (.long y :: .long x :: S)) X.here hx rfl hd rfl r) h
theorem Runs.ishl {x : Int32} {y : Int32} (d : DAt M pc .ishl 1 q) (h : Runs C M k n q P (.int (x <<< (y &&& 31)) :: S) G Q) : Runs C M k n pc P (.int y :: .int x :: S) G Q :=
  Runs.stk d (fun p e s m args below meth c T locs L hx hd hP X t r => XS.ishl (g := mkF m pc L (.int y :: .int x :: S)) X.here hx rfl hd rfl r) h
theorem Runs.ishr {x : Int32} {y : Int32} (d : DAt M pc .ishr 1 q) (h : Runs C M k n q P (.int (x >>> (y &&& 31)) :: S) G Q) : Runs C M k n pc P (.int y :: .int x :: S) G Q :=
  Runs.stk d (fun p e s m args below meth c T locs L hx hd hP X t r => XS.ishr (g := mkF m pc L (.int y :: .int x :: S)) X.here hx rfl hd rfl r) h
theorem Runs.iushr {x : Int32} {y : Int32} (d : DAt M pc .iushr 1 q) (h : Runs C M k n q P (.int ((x.toUInt32 >>> (y &&& 31).toUInt32).toInt32) :: S) G Q) : Runs C M k n pc P (.int y :: .int x :: S) G Q :=
  Runs.stk d (fun p e s m args below meth c T locs L hx hd hP X t r => XS.iushr (g := mkF m pc L (.int y :: .int x :: S)) X.here hx rfl hd rfl r) h
theorem Runs.lshl {x : Int64} {y : Int32} (d : DAt M pc .lshl 1 q) (h : Runs C M k n q P (.long (x <<< (y &&& 0x3f).toInt64) :: S) G Q) : Runs C M k n pc P (.int y :: .long x :: S) G Q :=
  Runs.stk d (fun p e s m args below meth c T locs L hx hd hP X t r => XS.lshl (g := mkF m pc L (.int y :: .long x :: S)) X.here hx rfl hd rfl r) h
theorem Runs.lshr {x : Int64} {y : Int32} (d : DAt M pc .lshr 1 q) (h : Runs C M k n q P (.long (x >>> (y &&& 0x3f).toInt64) :: S) G Q) : Runs C M k n pc P (.int y :: .long x :: S) G Q :=
  Runs.stk d (fun p e s m args below meth c T locs L hx hd hP X t r => XS.lshr (g := mkF m pc L (.int y :: .long x :: S)) X.here hx rfl hd rfl r) h
theorem Runs.lushr {x : Int64} {y : Int32} (d : DAt M pc .lushr 1 q) (h : Runs C M k n q P (.long ((x.toUInt64 >>> (y &&& 0x3f).toInt64.toUInt64).toInt64) :: S) G Q) : Runs C M k n pc P (.int y :: .long x :: S) G Q :=
  Runs.stk d (fun p e s m args below meth c T locs L hx hd hP X t r => XS.lushr (g := mkF m pc L (.int y :: .long x :: S)) X.here hx rfl hd rfl r) h
theorem Runs.ineg {x : Int32} (d : DAt M pc .ineg 1 q) (h : Runs C M k n q P (.int (-x) :: S) G Q) : Runs C M k n pc P (.int x :: S) G Q :=
  Runs.stk d (fun p e s m args below meth c T locs L hx hd hP X t r => XS.ineg (g := mkF m pc L (.int x :: S)) X.here hx rfl hd rfl r) h
theorem Runs.lneg {x : Int64} (d : DAt M pc .lneg 1 q) (h : Runs C M k n q P (.long (-x) :: S) G Q) : Runs C M k n pc P (.long x :: S) G Q :=
  Runs.stk d (fun p e s m args below meth c T locs L hx hd hP X t r => XS.lneg (g := mkF m pc L (.long x :: S)) X.here hx rfl hd rfl r) h
theorem Runs.i2l {x : Int32} (d : DAt M pc .i2l 1 q) (h : Runs C M k n q P (.long x.toInt64 :: S) G Q) : Runs C M k n pc P (.int x :: S) G Q :=
  Runs.stk d (fun p e s m args below meth c T locs L hx hd hP X t r => XS.i2l (g := mkF m pc L (.int x :: S)) X.here hx rfl hd rfl r) h
theorem Runs.l2i {x : Int64} (d : DAt M pc .l2i 1 q) (h : Runs C M k n q P (.int x.toInt32 :: S) G Q) : Runs C M k n pc P (.long x :: S) G Q :=
  Runs.stk d (fun p e s m args below meth c T locs L hx hd hP X t r => XS.l2i (g := mkF m pc L (.long x :: S)) X.here hx rfl hd rfl r) h
theorem Runs.lcmp {x y : Int64} (d : DAt M pc .lcmp 1 q) (h : Runs C M k n q P (.int (lcmpW x y) :: S) G Q) : Runs C M k n pc P (.long y :: .long x :: S) G Q :=
  Runs.stk d (fun p e s m args below meth c T locs L hx hd hP X t r => XS.lcmp (g := mkF m pc L (.long y :: .long x :: S)) X.here hx rfl hd rfl r) h
theorem Runs.idiv {x y : Int32} (d : DAt M pc .idiv 1 q) (hy : y ≠ 0) (h : Runs C M k n q P (.int (x / y) :: S) G Q) : Runs C M k n pc P (.int y :: .int x :: S) G Q :=
  Runs.stk d (fun p e s m args below meth c T locs L hx hd hP X t r => XS.idiv (g := mkF m pc L (.int y :: .int x :: S)) X.here hx rfl hd rfl hy r) h
theorem Runs.irem {x y : Int32} (d : DAt M pc .irem 1 q) (hy : y ≠ 0) (h : Runs C M k n q P (.int (x % y) :: S) G Q) : Runs C M k n pc P (.int y :: .int x :: S) G Q :=
  Runs.stk d (fun p e s m args below meth c T locs L hx hd hP X t r => iremM (g := mkF m pc L (.int y :: .int x :: S)) X hx rfl hd rfl hy r) h
theorem Runs.dup {x : Value} (d : DAt M pc .dup 1 q) (hc : x.category = 1) (h : Runs C M k n q P (x :: x :: S) G Q) : Runs C M k n pc P (x :: S) G Q :=
  Runs.stk d (fun p e s m args below meth c T locs L hx hd hP X t r => XS.dup (g := mkF m pc L (x :: S)) X.here hx rfl hd rfl hc r) h
theorem Runs.dup2 {x y : Value} (d : DAt M pc .dup2 1 q) (hc : x.category = 1) (hc' : y.category = 1) (h : Runs C M k n q P (x :: y :: x :: y :: S) G Q) : Runs C M k n pc P (x :: y :: S) G Q :=
  Runs.stk d (fun p e s m args below meth c T locs L hx hd hP X t r => Jvm.Free.XT.dup2 (g := mkF m pc L (x :: y :: S)) X.here hx rfl hd rfl hc hc' r) h
theorem Runs.pop {x : Value} (d : DAt M pc .pop 1 q) (hc : x.category = 1) (h : Runs C M k n q P S G Q) : Runs C M k n pc P (x :: S) G Q :=
  Runs.stk d (fun p e s m args below meth c T locs L hx hd hP X t r => XS.pop (g := mkF m pc L (x :: S)) X.here hx rfl hd rfl hc r) h
theorem Runs.goto {o : Int} {pc' : Nat} (d : DAt M pc (.goto o) 3 q) (ho : 0 ≤ (pc : Int) + o ∧ ((pc : Int) + o).toNat = pc') (h : Runs C M k n pc' P S G Q) : Runs C M k n pc P S G Q :=
  Runs.pure d (fun p e s m args below meth c T locs L hw hx hown hZ hd hP hsz _ X => ⟨L, hP, hsz, fun t r => XS.goto (g := mkF m pc L S) X.here hx rfl (pc0 := pc) rfl hd ho.1 ho.2 r⟩) h
theorem Runs.ifY {cd : ClassFile.Cond} {x : Int32} {o : Int} {pc' : Nat} (d : DAt M pc (.ifCond cd o) 3 q) (hc : if_icmp.holds cd x 0 = true) (ho : 0 ≤ (pc : Int) + o ∧ ((pc : Int) + o).toNat = pc') (h : Runs C M k n pc' P S G Q) : Runs C M k n pc P (.int x :: S) G Q :=
  Runs.pure d (fun p e s m args below meth c T locs L hw hx hown hZ hd hP hsz _ X => ⟨L, hP, hsz, fun t r => XS.ifYes (g := mkF m pc L (.int x :: S)) X.here hx rfl (pc0 := pc) rfl hd rfl ((if0 _ _).trans hc) ho.1 ho.2 r⟩) h
theorem Runs.ifN {cd : ClassFile.Cond} {x : Int32} {o : Int} (d : DAt M pc (.ifCond cd o) 3 q) (hc : if_icmp.holds cd x 0 = false) (h : Runs C M k n q P S G Q) : Runs C M k n pc P (.int x :: S) G Q :=
  Runs.stk d (fun p e s m args below meth c T locs L hx hd hP X t r => XS.ifNo (g := mkF m pc L (.int x :: S)) X.here hx rfl hd rfl ((if0 _ _).trans hc) r) h
theorem Runs.icY {cd : ClassFile.Cond} {x y : Int32} {o : Int} {pc' : Nat} (d : DAt M pc (.if_icmp cd o) 3 q) (hc : if_icmp.holds cd x y = true) (ho : 0 ≤ (pc : Int) + o ∧ ((pc : Int) + o).toNat = pc') (h : Runs C M k n pc' P S G Q) : Runs C M k n pc P (.int y :: .int x :: S) G Q :=
  Runs.pure d (fun p e s m args below meth c T locs L hw hx hown hZ hd hP hsz _ X => ⟨L, hP, hsz, fun t r => XS.icmpYes (g := mkF m pc L (.int y :: .int x :: S)) X.here hx rfl (pc0 := pc) rfl hd rfl hc ho.1 ho.2 r⟩) h
theorem Runs.icN {cd : ClassFile.Cond} {x y : Int32} {o : Int} (d : DAt M pc (.if_icmp cd o) 3 q) (hc : if_icmp.holds cd x y = false) (h : Runs C M k n q P S G Q) : Runs C M k n pc P (.int y :: .int x :: S) G Q :=
  Runs.stk d (fun p e s m args below meth c T locs L hx hd hP X t r => XS.icmpNo (g := mkF m pc L (.int y :: .int x :: S)) X.here hx rfl hd rfl hc r) h
theorem Runs.tswI {dflt low high : Int} {offs : Array Int} {len : Nat} {o : Int} {pc' : Nat} {i : Int32} (d : DAt M pc (.tableswitch dflt low high offs) len q) (hin : ¬ (i.toInt < low ∨ i.toInt > high)) (hoff : offs[(i.toInt - low).toNat]? = some o) (ho : 0 ≤ (pc : Int) + o ∧ ((pc : Int) + o).toNat = pc') (h : Runs C M k n pc' P S G Q) : Runs C M k n pc P (.int i :: S) G Q :=
  Runs.pure d (fun p e s m args below meth c T locs L hw hx hown hZ hd hP hsz _ X => ⟨L, hP, hsz, fun t r => XS.tswIn (g := mkF m pc L (.int i :: S)) X.here hx rfl (pc0 := pc) rfl hd rfl hin hoff ho.1 ho.2 r⟩) h
theorem Runs.tswO {dflt low high : Int} {offs : Array Int} {len : Nat} {pc' : Nat} {i : Int32} (d : DAt M pc (.tableswitch dflt low high offs) len q) (hout : i.toInt < low ∨ i.toInt > high) (ho : 0 ≤ (pc : Int) + dflt ∧ ((pc : Int) + dflt).toNat = pc') (h : Runs C M k n pc' P S G Q) : Runs C M k n pc P (.int i :: S) G Q :=
  Runs.pure d (fun p e s m args below meth c T locs L hw hx hown hZ hd hP hsz _ X => ⟨L, hP, hsz, fun t r => XS.tswOut (g := mkF m pc L (.int i :: S)) X.here hx rfl (pc0 := pc) rfl hd rfl hout ho.1 ho.2 r⟩) h
theorem Runs.istoreN {j : Fin 4} {x : Int32} (d : DAt M pc (.istore_n j) 1 q) (hi : j.val < M.2.2.1) (hP' : ps1 P j.val (.int x) = P') (h : Runs C M k n q P' S G Q) : Runs C M k n pc P (.int x :: S) G Q := by
  have hq := d.2
  subst hq hP'
  refine Runs.pure d (fun p e s m args below meth c T locs L hw hx hown hZ hd hP hsz _ X => ?_) h
  obtain ⟨L', e1, e2, e3⟩ := hP.store1 (i := j.val) (v := .int x) (by omega) rfl
  exact ⟨L', e3, e2.trans hsz, fun t r => XS.istoreN (g := mkF m pc L (.int x :: S)) X.here hx rfl hd rfl e1 r⟩
theorem Runs.istore {j : Nat} {x : Int32} (d : DAt M pc (.istore j) 2 q) (hi : j < M.2.2.1) (hP' : ps1 P j (.int x) = P') (h : Runs C M k n q P' S G Q) : Runs C M k n pc P (.int x :: S) G Q := by
  have hq := d.2
  subst hq hP'
  refine Runs.pure d (fun p e s m args below meth c T locs L hw hx hown hZ hd hP hsz _ X => ?_) h
  obtain ⟨L', e1, e2, e3⟩ := hP.store1 (i := j) (v := .int x) (by omega) rfl
  exact ⟨L', e3, e2.trans hsz, fun t r => XS.istore (g := mkF m pc L (.int x :: S)) X.here hx rfl hd rfl e1 r⟩
theorem Runs.astoreN {j : Fin 4} {x : Nat} (d : DAt M pc (.astore_n j) 1 q) (hi : j.val < M.2.2.1) (hP' : ps1 P j.val (.ref x) = P') (h : Runs C M k n q P' S G Q) : Runs C M k n pc P (.ref x :: S) G Q := by
  have hq := d.2
  subst hq hP'
  refine Runs.pure d (fun p e s m args below meth c T locs L hw hx hown hZ hd hP hsz _ X => ?_) h
  obtain ⟨L', e1, e2, e3⟩ := hP.store1 (i := j.val) (v := .ref x) (by omega) rfl
  exact ⟨L', e3, e2.trans hsz, fun t r => XS.astoreN (g := mkF m pc L (.ref x :: S)) X.here hx rfl hd rfl rfl e1 r⟩
theorem Runs.astore {j : Nat} {x : Nat} (d : DAt M pc (.astore j) 2 q) (hi : j < M.2.2.1) (hP' : ps1 P j (.ref x) = P') (h : Runs C M k n q P' S G Q) : Runs C M k n pc P (.ref x :: S) G Q := by
  have hq := d.2
  subst hq hP'
  refine Runs.pure d (fun p e s m args below meth c T locs L hw hx hown hZ hd hP hsz _ X => ?_) h
  obtain ⟨L', e1, e2, e3⟩ := hP.store1 (i := j) (v := .ref x) (by omega) rfl
  exact ⟨L', e3, e2.trans hsz, fun t r => XS.astore (g := mkF m pc L (.ref x :: S)) X.here hx rfl hd rfl rfl e1 r⟩
theorem Runs.lstoreN {j : Fin 4} {x : Int64} (d : DAt M pc (.lstore_n j) 1 q) (hi : j.val + 1 < M.2.2.1) (hP' : ps2 P j.val (.long x) = P') (h : Runs C M k n q P' S G Q) : Runs C M k n pc P (.long x :: S) G Q := by
  have hq := d.2
  subst hq hP'
  refine Runs.pure d (fun p e s m args below meth c T locs L hw hx hown hZ hd hP hsz _ X => ?_) h
  obtain ⟨L', e1, e2, e3⟩ := hP.store2 (i := j.val) (v := .long x) (by omega) rfl
  exact ⟨L', e3, e2.trans hsz, fun t r => XS.lstoreN (g := mkF m pc L (.long x :: S)) X.here hx rfl hd rfl e1 r⟩
theorem Runs.lstore {j : Nat} {x : Int64} (d : DAt M pc (.lstore j) 2 q) (hi : j + 1 < M.2.2.1) (hP' : ps2 P j (.long x) = P') (h : Runs C M k n q P' S G Q) : Runs C M k n pc P (.long x :: S) G Q := by
  have hq := d.2
  subst hq hP'
  refine Runs.pure d (fun p e s m args below meth c T locs L hw hx hown hZ hd hP hsz _ X => ?_) h
  obtain ⟨L', e1, e2, e3⟩ := hP.store2 (i := j) (v := .long x) (by omega) rfl
  exact ⟨L', e3, e2.trans hsz, fun t r => XS.lstore (g := mkF m pc L (.long x :: S)) X.here hx rfl hd rfl e1 r⟩
theorem Runs.iinc {j : Nat} {cst : Int} {x v : Int32} (d : DAt M pc (.iinc j cst) 3 q) (hv : Int32.ofInt cst = v) (hl : pget P j = vi x) (hi : j < M.2.2.1) (hP' : ps1 P j (.int (x + v)) = P') (h : Runs C M k n q P' S G Q) : Runs C M k n pc P S G Q := by
  have hq := d.2
  subst hq hP' hv
  refine Runs.pure d (fun p e s m args below meth c T locs L hw hx hown hZ hd hP hsz _ X => ?_) h
  obtain ⟨L', e1, e2, e3⟩ := hP.store1 (i := j) (v := .int (x + Int32.ofInt cst)) (by omega) rfl
  exact ⟨L', e3, e2.trans hsz, fun t r => XS.iinc (g := mkF m pc L S) X.here hx rfl hd (hP.1 _ _ hl) e1 r⟩
/-- less is known of the locals -/
def psub : Pat → Pat → Prop
  | [], _ => True
  | none :: l, _ :: l' => psub l l'
  | some s :: l, y :: l' => y = some s ∧ psub l l'
  | none :: l, [] => psub l []
  | some _ :: _, [] => False
theorem psub_get : ∀ (P P' : Pat), psub P P' → ∀ i s, pget P i = some s → pget P' i = some s
  | [], _, _, i, s, h => by simp [pget] at h
  | none :: l, _ :: l', H, 0, s, h => by simp [pget] at h
  | none :: l, _ :: l', H, i + 1, s, h => psub_get l l' H i s h
  | some x :: l, y :: l', H, 0, s, h => by rw [show y = some x from H.1]; exact h
  | some x :: l, y :: l', H, i + 1, s, h => psub_get l l' H.2 i s h
  | none :: l, [], H, 0, s, h => by simp [pget] at h
  | none :: l, [], H, i + 1, s, h => by have := psub_get l [] H i s h; simp [pget] at this
  | some _ :: _, [], H, _, _, _ => H.elim
theorem Runs.weak (hP : psub P' P) (h : Runs C M k n pc P' S G Q) : Runs C M k n pc P S G Q := by
  intro hw p e s m args below meth c T locs L hx hby hml hret hnm hown hZ hf
  exact h hw p e s m args below meth c T locs L hx hby hml hret hnm hown hZ ⟨fun i s hi => hf.1 i s (psub_get _ _ hP i s hi), hf.2⟩
theorem Runs.swap {top : Nat} {x y : Nat × Nat × Rec} {H : List (Nat × Nat × Rec)} (h : Runs C M k n pc P S (top, y :: x :: H) Q) : Runs C M k n pc P S (top, x :: y :: H) Q := by
  intro hw p e s m args below meth c T locs L hx hby hml hret hnm hown hZ hf hsz X hR hF
  exact h hw p e s m args below meth c T locs L hx hby hml hret hnm hown hZ hf hsz X hR.swap hF
end Rules
/- the steps that touch the heap -/
section Made
variable {p : Program} {l : Launch} {e : Env} {R : Room} {s : State} {m : MethodId} {args : Array Value} {below : List Frame} {meth : Method} {c : Code} {T : State} {locs : List Loc} {cells slots : Nat} {Z : State} {a0 : Array Value}
theorem ext_push (h : Heap) (x : Cell) : Ext h (h.push x) := ⟨by simp, fun a c q => by rw [Array.getElem?_push_lt (Array.getElem?_eq_some_iff.mp q).1]; exact (Array.getElem?_eq_getElem _).symm.trans q⟩
/-- 'new', with the heap's size behind it -/
theorem new1 (X : Stand p l e R s m args below meth c T locs cells slots) (hx : p.tables.exec = Jvm.exec) (hZ : Z.Warmed39 s.vm) {own C : String} {index n : Nat} (hown : s.vm.findClass own = some m.cls) (w : (Jvm.Cond.classLink own index C).before a0 Z = true) (wi : (Jvm.Cond.instantiable C n).before a0 Z = true) (wz : (Jvm.Cond.initialized C).before a0 Z = true)
    {g : JFrame} (hg : g.method = m) (hd : decode c.code g.pc = .ok (.new index, 3)) (hc : cells + 1 ≤ R.cells) (hl : slots + n ≤ R.slots) :
    ∃ T', Stand p l e R s m args below meth c T' locs (cells + 1) (slots + n) ∧ T'.heap.size = T.heap.size + 1 ∧ Ext T.heap T'.heap ∧ Exa Z T'.heap T.heap.size C ∧ (∀ {O nm d : String} {ty : FieldType}, Laid Z a0 C O nm d → parseFieldDescriptor d = some ty → Fld Z T'.heap T.heap.size O nm d (defaultValue ty)) ∧
      ∀ target, Steps p.tables e below (T'.setTop { g with pc := g.pc + 3, stack := .ref T.heap.size :: g.stack }) target → Steps p.tables e below (T.setTop g) target := by
  obtain ⟨vm', cC, kC, h1, h2, h3, h4, X', st⟩ := X.newCold hx hown (mv hZ w) (mv hZ wi) (mv hZ wz) hg hd hc hl
  rw [hZ.alike.findClass] at h1
  obtain ⟨kZ, z1, -⟩ := Vm.findClass_spec h1
  obtain ⟨k', z2, z3⟩ := hZ.alike.2.2 _ _ z1
  have ek : kC.instanceTypes = kZ.instanceTypes := by rw [Option.some.inj (h2.symm.trans z2), z3]
  obtain ⟨cell, hcell⟩ : ∃ cell : Cell, cell = { cls := cC, slots := kC.instanceTypes.map defaultValue, vm := .none } := ⟨_, rfl⟩
  rw [← hcell] at X' st
  have hp : ((T.setVm vm').pushCell cell).heap = T.heap.push cell := rfl
  have at' : (T.heap.push cell)[T.heap.size]? = some cell := by simp
  refine ⟨_, X', by rw [hp]; simp, by rw [hp]; exact ext_push _ _, ?_, fun {O nm d ty} L ht => ?_, st⟩
  · rw [hp]; exact ⟨cell, kZ, at', by rw [hcell]; exact h1, by rw [hcell]; exact z1, by rw [hcell]; rfl, fun _ => by rw [hcell]; simp [ek]⟩
  · rw [hp]
    obtain ⟨c1, k1, cf, kf, i, f, a1, a2, a3, a4, a5, a6, -⟩ := L.spec
    cases h1.symm.trans a1
    cases z1.symm.trans a2
    refine ⟨cell, cf, kf, i, f, at', a3, a4, by rw [hcell]; simp, by rw [hcell]; rfl, by rw [hcell]; exact a5, ?_⟩
    rw [hcell]; simp [ek, a6, (State.fieldFound?_type a3 ht).2]
theorem newArr1 (X : Stand p l e R s m args below meth c T locs cells slots) (hx : p.tables.exec = Jvm.exec) (hZ : Z.Warmed39 s.vm) {aty : ArrayType} (w : (Jvm.Cond.arrayClass (newarray.typeOf aty)).before a0 Z = true) {g : JFrame} (hg : g.method = m) (hd : decode c.code g.pc = .ok (.newarray aty, 2)) {n : Int32} {rest : List Value} (hs : g.stack = .int n :: rest)
    (hn : ¬ n < 0) (hb : n.toNatClampNeg * 8 ≤ 536870912) (hc : cells + 1 ≤ R.cells) (hl : slots + n.toNatClampNeg ≤ R.slots) :
    ∃ T' cA, Stand p l e R s m args below meth c T' locs (cells + 1) (slots + n.toNatClampNeg) ∧ T'.heap.size = T.heap.size + 1 ∧ Ext T.heap T'.heap ∧ Arr Z T'.heap T.heap.size (newA cA (newarray.typeOf aty) n) (newarray.typeOf aty) ∧
      ∀ target, Steps p.tables e below (T'.setTop { g with pc := g.pc + 2, stack := .ref T.heap.size :: rest }) target → Steps p.tables e below (T.setTop g) target := by
  have hcb : componentBytes (newarray.typeOf aty) ≤ 8 := by cases aty <;> decide
  obtain ⟨cA, kA, comp, h1, h2, h3, X', st⟩ := X.newarrayPrim hx (mvA hZ w) hg hd hs hn (Nat.le_trans (Nat.mul_le_mul_left _ hcb) hb) hc hl
  rw [hZ.alike.findClass] at h1
  obtain ⟨kZ, z1, -⟩ := Vm.findClass_spec h1
  obtain ⟨k', z2, z3⟩ := hZ.alike.2.2 _ _ z1
  have ek : kA.kind = kZ.kind := by rw [Option.some.inj (h2.symm.trans z2), z3]
  have hp : (T.pushCell (newA cA (newarray.typeOf aty) n)).heap = T.heap.push (newA cA (newarray.typeOf aty) n) := rfl
  refine ⟨T.pushCell (newA cA (newarray.typeOf aty) n), cA, X', by rw [hp]; simp, by rw [hp]; exact ext_push _ _, ?_, st⟩
  rw [hp]
  exact ⟨by simp, ⟨by simp [newA], kZ, z1, comp, by rw [← ek]; exact h3⟩, by simp [newA]⟩
end Made
section Heap
variable {C : Ctx} {M : Bdy} {k n pc q : Nat} {P P' : Pat} {S S' : List Value} {G : AH} {Q : Option Value → AH → Prop} {top : Nat} {a : Nat} {qq j idx : Nat} {ob : Rec} {H : List (Nat × Nat × Rec)} {nm ds : String}
theorem Runs.getI (d : DAt M pc (.getfield idx) 3 q) (w : Jvm.Cond.fieldLink M.1.cls idx K.1 nm ds ∈ tables_1) (hk : K.2.1[j]? = some (nm, ds)) (h : Runs C M k n q P (.int (gI ob j) :: S) (top, (a, qq, ob) :: H) Q) : Runs C M k n pc P (.ref a :: S) (top, (a, qq, ob) :: H) Q := by
  intro hw p e s m args below meth c T locs L hx hby hml hret hnm hown hZ hf hsz X hR hF
  have hq := d.2
  subst hq
  obtain ⟨T1, X1, e1, st1⟩ := getF X hx hZ hown (host := "") (Or.inl (hw _ w)) Via.refl rfl (hR.objs.2.2.2.1 j _ hk) (g := mkF m pc L (.ref a :: S)) rfl rfl (hb hby d.1)
  obtain ⟨T', locs', k', n', r, G', g1, g2, g3, g4, g5, g6, g7, g8⟩ := h hw p e s m args below meth c T1 locs L hx hby hml hret hnm hown hZ hf hsz X1 (by rw [e1]; exact hR) hF
  exact ⟨T', locs', k', n', r, G', g1, g2, g3, g4, g5, g6, g7, fun fs hr => st1 _ (g8 fs hr)⟩
theorem Runs.getA {ty : FieldType} {len : Int32} (d : DAt M pc (.getfield idx) 3 q) (hk : K.2.2[j]? = some (nm, ty, len)) (w : Jvm.Cond.fieldLink M.1.cls idx K.1 nm (aD ty) ∈ tables_1) (hq : j < qq) (h : Runs C M k n q P (.ref (a + 1 + j) :: S) (top, (a, qq, ob) :: H) Q) : Runs C M k n pc P (.ref a :: S) (top, (a, qq, ob) :: H) Q := by
  intro hw p e s m args below meth c T locs L hx hby hml hret hnm hown hZ hf hsz X hR hF
  have hqq := d.2
  subst hqq
  obtain ⟨T1, X1, e1, st1⟩ := getF X hx hZ hown (host := "") (Or.inl (hw _ w)) Via.refl rfl (hR.objs.2.2.2.2.1 j _ hk hq).1 (g := mkF m pc L (.ref a :: S)) rfl rfl (hb hby d.1)
  obtain ⟨T', locs', k', n', r, G', g1, g2, g3, g4, g5, g6, g7, g8⟩ := h hw p e s m args below meth c T1 locs L hx hby hml hret hnm hown hZ hf hsz X1 (by rw [e1]; exact hR) hF
  exact ⟨T', locs', k', n', r, G', g1, g2, g3, g4, g5, g6, g7, fun fs hr => st1 _ (g8 fs hr)⟩
theorem lw_of {Z : State} {a0 : Array Value} {meth : Method} (hw : ∀ d ∈ tables_1, d.before a0 Z = true) {C O n d own : String} (h : Jvm.Cond.lays C O n d ∈ tables_1 ∨ Jvm.Cond.laysFinal C O n d ∈ tables_1) (hc : Jvm.Cond.lays C O n d ∈ tables_1 ∨ (own = O ∧ meth.name = "<init>")) : (Jvm.Cond.lays C O n d).before a0 Z = true ∨ ((Jvm.Cond.laysFinal C O n d).before a0 Z = true ∧ own = O ∧ meth.name = "<init>") := by
  rcases hc with hc | hc
  · exact Or.inl (hw _ hc)
  · exact h.imp (hw _) (fun u => ⟨hw _ u, hc⟩)
/-- a field that may be written here: not final, or in a constructor of its class -/
def Mine (M : Bdy) (nm ds : String) : Prop := Jvm.Cond.lays K.1 K.1 nm ds ∈ tables_1 ∨ (M.1.cls = K.1 ∧ M.1.name = "<init>")
theorem Runs.putI {x : Int32} (d : DAt M pc (.putfield idx) 3 q) (w : Jvm.Cond.fieldLink M.1.cls idx K.1 nm "I" ∈ tables_1) (hk : K.2.1[j]? = some (nm, "I")) (hm : Mine M nm "I") (h : Runs C M k n q P S (top, (a, qq, sI ob j x) :: H) Q) : Runs C M k n pc P (.int x :: .ref a :: S) (top, (a, qq, ob) :: H) Q := by
  intro hw p e s m args below meth c T locs L hx hby hml hret hnm hown hZ hf hsz X hR hF
  have hqq := d.2
  subst hqq
  obtain ⟨T1, h1, X1, e1, W1, st1⟩ := putF X hx hZ hown (host := "") (Or.inl (hw _ w)) Via.refl rfl (hR.objs.2.2.2.1 j _ hk) hR.objs.2.2.1 (lw_of hw ((All.mem kS (List.mem_of_getElem? hk)).1) (hm.imp id (fun u => ⟨u.1, hnm.trans u.2⟩))) (hw _ kI) (ty := .int) (by decide) rfl rfl (g := mkF m pc L (.int x :: .ref a :: S)) rfl rfl (hb hby d.1)
  obtain ⟨T', locs', k', n', r, G', g1, g2, g3, g4, g5, g6, g7, g8⟩ := h hw p e s m args below meth c T1 _ L hx hby hml hret hnm hown hZ hf hsz X1 (by rw [e1]; exact hR.putI hw hk W1) (Fr.snoc X1 hF hR.objs.1)
  exact ⟨T', locs', k', n', r, G', g1, g2, g3, g4, g5, g6, g7, fun fs hr => st1 _ (g8 fs hr)⟩
theorem Runs.putZ {x y : Int32} (d : DAt M pc (.putfield idx) 3 q) (w : Jvm.Cond.fieldLink M.1.cls idx K.1 nm "Z" ∈ tables_1) (hk : K.2.1[j]? = some (nm, "Z")) (hm : Mine M nm "Z") (hy : nar .boolean x = y) (h : Runs C M k n q P S (top, (a, qq, sI ob j y) :: H) Q) : Runs C M k n pc P (.int x :: .ref a :: S) (top, (a, qq, ob) :: H) Q := by
  subst hy
  intro hw p e s m args below meth c T locs L hx hby hml hret hnm hown hZ hf hsz X hR hF
  have hqq := d.2
  subst hqq
  obtain ⟨T1, h1, X1, e1, W1, st1⟩ := putFN X hx hZ hown (hw _ w) Via.refl rfl (hR.objs.2.2.2.1 j _ hk) hR.objs.2.2.1 (lw_of hw ((All.mem kS (List.mem_of_getElem? hk)).1) (hm.imp id (fun u => ⟨u.1, hnm.trans u.2⟩))) (hw _ kI) (ty := .boolean) (v' := .int (nar .boolean x)) (by decide) rfl (fits_nar_bool _) (g := mkF m pc L (.int x :: .ref a :: S)) rfl rfl (hb hby d.1)
  obtain ⟨T', locs', k', n', r, G', g1, g2, g3, g4, g5, g6, g7, g8⟩ := h hw p e s m args below meth c T1 _ L hx hby hml hret hnm hown hZ hf hsz X1 (by rw [e1]; exact hR.putI hw hk W1) (Fr.snoc X1 hF hR.objs.1)
  exact ⟨T', locs', k', n', r, G', g1, g2, g3, g4, g5, g6, g7, fun fs hr => st1 _ (g8 fs hr)⟩
theorem Runs.ialoadA {i len : Int32} (d : DAt M pc .iaload 1 q) (hk : K.2.2[j]? = some (nm, .int, len)) (hq : j < qq) (hi : ¬ i < 0 ∧ i < len) (h : Runs C M k n q P (.int (gA ob j i) :: S) (top, (a, qq, ob) :: H) Q) : Runs C M k n pc P (.int i :: .ref (a + 1 + j) :: S) (top, (a, qq, ob) :: H) Q := by
  have hqq := d.2
  subst hqq
  refine Runs.pure d (fun p e s m args below meth c T locs L hw hx hown hZ hd hP hsz hR X => ⟨L, hP, hsz, fun t r => ?_⟩) h
  obtain ⟨cl, A, Sz, V⟩ := (hR.objs.2.2.2.2.1 j _ hk hq).2
  exact X.iaload hx (j := i) (v := .int (gA ob j i)) A.1 (State.isArrayOf_alike hZ.alike A.2.1) A.2.2 (inb_of Sz hi) (V i hi.1 hi.2) (g := mkF m pc L (.int i :: .ref (a + 1 + j) :: S)) rfl rfl hd _ r
theorem Runs.baloadA {i len : Int32} (d : DAt M pc .baload 1 q) (hk : K.2.2[j]? = some (nm, .boolean, len)) (hq : j < qq) (hi : ¬ i < 0 ∧ i < len) (h : Runs C M k n q P (.int (gA ob j i) :: S) (top, (a, qq, ob) :: H) Q) : Runs C M k n pc P (.int i :: .ref (a + 1 + j) :: S) (top, (a, qq, ob) :: H) Q := by
  have hqq := d.2
  subst hqq
  refine Runs.pure d (fun p e s m args below meth c T locs L hw hx hown hZ hd hP hsz hR X => ⟨L, hP, hsz, fun t r => ?_⟩) h
  obtain ⟨cl, A, Sz, V⟩ := (hR.objs.2.2.2.2.1 j _ hk hq).2
  exact X.baloadBooleans hx (j := i) (v := .int (gA ob j i)) A.1 (State.isArrayOf_alike hZ.alike A.2.1) A.2.2 (inb_of Sz hi) (V i hi.1 hi.2) (g := mkF m pc L (.int i :: .ref (a + 1 + j) :: S)) rfl rfl hd _ r
theorem Runs.laloadA {i len : Int32} (d : DAt M pc .laload 1 q) (hk : K.2.2[j]? = some (nm, .long, len)) (hq : j < qq) (hi : ¬ i < 0 ∧ i < len) (h : Runs C M k n q P (.long (gJ ob j i) :: S) (top, (a, qq, ob) :: H) Q) : Runs C M k n pc P (.int i :: .ref (a + 1 + j) :: S) (top, (a, qq, ob) :: H) Q := by
  have hqq := d.2
  subst hqq
  refine Runs.pure d (fun p e s m args below meth c T locs L hw hx hown hZ hd hP hsz hR X => ⟨L, hP, hsz, fun t r => ?_⟩) h
  obtain ⟨cl, A, Sz, V⟩ := (hR.objs.2.2.2.2.1 j _ hk hq).2
  exact X.laload hx (j := i) (v := .long (gJ ob j i)) A.1 (State.isArrayOf_alike hZ.alike A.2.1) A.2.2 (inb_of Sz hi) (V i hi.1 hi.2) (g := mkF m pc L (.int i :: .ref (a + 1 + j) :: S)) rfl rfl hd _ r
theorem Runs.iastoreA {i x len : Int32} (d : DAt M pc .iastore 1 q) (hk : K.2.2[j]? = some (nm, .int, len)) (hq : j < qq) (hi : ¬ i < 0 ∧ i < len) (h : Runs C M k n q P S (top, (a, qq, sA ob j i x) :: H) Q) : Runs C M k n pc P (.int x :: .int i :: .ref (a + 1 + j) :: S) (top, (a, qq, ob) :: H) Q := by
  intro hw p e s m args below meth c T locs L hx hby hml hret hnm hown hZ hf hsz X hR hF
  have hqq := d.2
  subst hqq
  obtain ⟨cl, A, Sz, V⟩ := (hR.objs.2.2.2.2.1 j _ hk hq).2
  obtain ⟨T1, h1, X1, e1, W1, st1⟩ := stI X hx hZ rfl A (j := i) (x := x) (inb_of Sz hi) (g := mkF m pc L (.int x :: .int i :: .ref (a + 1 + j) :: S)) rfl rfl (hb hby d.1)
  obtain ⟨T', locs', k', n', r, G', g1, g2, g3, g4, g5, g6, g7, g8⟩ := h hw p e s m args below meth c T1 _ L hx hby hml hret hnm hown hZ hf hsz X1 (by rw [e1]; exact hR.putA hk hq (by simp) hi W1) (Fr.snoc X1 hF (by have := hR.objs.1; omega))
  exact ⟨T', locs', k', n', r, G', g1, g2, g3, g4, g5, g6, g7, fun fs hr => st1 _ (g8 fs hr)⟩
theorem Runs.bastoreA {i x len : Int32} (d : DAt M pc .bastore 1 q) (hk : K.2.2[j]? = some (nm, .boolean, len)) (hq : j < qq) (hi : ¬ i < 0 ∧ i < len) {y : Int32} (hy : nar .boolean x = y) (h : Runs C M k n q P S (top, (a, qq, sA ob j i y) :: H) Q) : Runs C M k n pc P (.int x :: .int i :: .ref (a + 1 + j) :: S) (top, (a, qq, ob) :: H) Q := by
  subst hy
  intro hw p e s m args below meth c T locs L hx hby hml hret hnm hown hZ hf hsz X hR hF
  have hqq := d.2
  subst hqq
  obtain ⟨cl, A, Sz, V⟩ := (hR.objs.2.2.2.2.1 j _ hk hq).2
  obtain ⟨T1, h1, X1, e1, W1, st1⟩ := stZ X hx hZ rfl A (j := i) (x := x) (inb_of Sz hi) (g := mkF m pc L (.int x :: .int i :: .ref (a + 1 + j) :: S)) rfl rfl (hb hby d.1)
  obtain ⟨T', locs', k', n', r, G', g1, g2, g3, g4, g5, g6, g7, g8⟩ := h hw p e s m args below meth c T1 _ L hx hby hml hret hnm hown hZ hf hsz X1 (by rw [e1]; exact hR.putA hk hq (by simp) hi W1) (Fr.snoc X1 hF (by have := hR.objs.1; omega))
  exact ⟨T', locs', k', n', r, G', g1, g2, g3, g4, g5, g6, g7, fun fs hr => st1 _ (g8 fs hr)⟩
theorem Runs.lastoreA {i len : Int32} {x : Int64} (d : DAt M pc .lastore 1 q) (hk : K.2.2[j]? = some (nm, .long, len)) (hq : j < qq) (hi : ¬ i < 0 ∧ i < len) (h : Runs C M k n q P S (top, (a, qq, sJ ob j i x) :: H) Q) : Runs C M k n pc P (.long x :: .int i :: .ref (a + 1 + j) :: S) (top, (a, qq, ob) :: H) Q := by
  intro hw p e s m args below meth c T locs L hx hby hml hret hnm hown hZ hf hsz X hR hF
  have hqq := d.2
  subst hqq
  obtain ⟨cl, A, Sz, V⟩ := (hR.objs.2.2.2.2.1 j _ hk hq).2
  obtain ⟨T1, h1, X1, e1, W1, st1⟩ := stJ X hx hZ rfl A (j := i) (x := x) (inb_of Sz hi) (g := mkF m pc L (.long x :: .int i :: .ref (a + 1 + j) :: S)) rfl rfl (hb hby d.1)
  obtain ⟨T', locs', k', n', r, G', g1, g2, g3, g4, g5, g6, g7, g8⟩ := h hw p e s m args below meth c T1 _ L hx hby hml hret hnm hown hZ hf hsz X1 (by rw [e1]; exact hR.putJ hk hq rfl hi W1) (Fr.snoc X1 hF (by have := hR.objs.1; omega))
  exact ⟨T', locs', k', n', r, G', g1, g2, g3, g4, g5, g6, g7, fun fs hr => st1 _ (g8 fs hr)⟩
/-- the script: an array that stood before the law began -/
def ScrF (C : Ctx) (sa : Nat) (z : Int32) (f : Int32 → Int32) : Prop := ∃ cl : Cell, Scr C.2.1 C.2.1.heap sa cl z ∧ f = atv cl
theorem Runs.lenS {sa : Nat} {z : Int32} {f : Int32 → Int32} (hs : ScrF C sa z f) (d : DAt M pc .arraylength 1 q) (h : Runs C M k n q P (.int z :: S) G Q) : Runs C M k n pc P (.ref sa :: S) G Q := by
  have hqq := d.2
  subst hqq
  refine Runs.pure d (fun p e s m args below meth c T locs L hw hx hown hZ hd hP hsz hR X => ⟨L, hP, hsz, fun t r => ?_⟩) h
  obtain ⟨cl, F, -⟩ := hs
  obtain ⟨A, Sz, N, V⟩ := F.ext hR.2.1.2
  exact X.arraylength hx A.1 (State.isArrayOf_alike hZ.alike A.2.1) (g := mkF m pc L (.ref sa :: S)) rfl rfl hd _ (by rw [len_of Sz N]; exact r)
theorem Runs.ialoadS {sa : Nat} {z i : Int32} {f : Int32 → Int32} (hs : ScrF C sa z f) (d : DAt M pc .iaload 1 q) (hi : ¬ i < 0 ∧ i < z) (h : Runs C M k n q P (.int (f i) :: S) G Q) : Runs C M k n pc P (.int i :: .ref sa :: S) G Q := by
  have hqq := d.2
  subst hqq
  refine Runs.pure d (fun p e s m args below meth c T locs L hw hx hown hZ hd hP hsz hR X => ⟨L, hP, hsz, fun t r => ?_⟩) h
  obtain ⟨cl, F, rfl⟩ := hs
  obtain ⟨A, Sz, N, V⟩ := F.ext hR.2.1.2
  exact X.iaload hx (j := i) (v := .int (atv cl i)) A.1 (State.isArrayOf_alike hZ.alike A.2.1) A.2.2 (inb_of Sz hi) (V i (inb_of Sz hi)) (g := mkF m pc L (.int i :: .ref sa :: S)) rfl rfl hd _ r
/- leaving -/
theorem Runs.retI {v : Int32} (d : DAt M pc .ireturn 1 q) (hret : M.2.2.2.1 = some .int) (hk : k ≤ M.2.2.2.2.cells ∧ n ≤ M.2.2.2.2.slots) (hQ : Q (some (.int v)) G) : Runs C M k n pc P (.int v :: S) G Q := by
  intro hw p e s m args below meth c T locs L hx hby hml hr0 hnm hown hZ hf hsz X hR hF
  exact ⟨T, locs, k, n, _, G, X, hk.1, hk.2, hR, hF, hQ, (fun u => by rw [hret] at u; cases u), fun fs hr => Jvm.RoadKit.retI X hx (hr0.trans hret) (hb hby d.1) hr⟩
theorem Runs.retZ {v : Int32} (d : DAt M pc .ireturn 1 q) (hret : M.2.2.2.1 = some .boolean) (hk : k ≤ M.2.2.2.2.cells ∧ n ≤ M.2.2.2.2.slots) {y : Int32} (hy : nar .boolean v = y) (hQ : Q (some (.int y)) G) : Runs C M k n pc P (.int v :: S) G Q := by
  subst hy
  intro hw p e s m args below meth c T locs L hx hby hml hr0 hnm hown hZ hf hsz X hR hF
  exact ⟨T, locs, k, n, _, G, X, hk.1, hk.2, hR, hF, hQ, (fun u => by rw [hret] at u; cases u), fun fs hr => retN X hx (t := .boolean) (hr0.trans hret) (by simp) (hb hby d.1) hr⟩
theorem Runs.retJ {v : Int64} (d : DAt M pc .lreturn 1 q) (hret : M.2.2.2.1 = some .long) (hk : k ≤ M.2.2.2.2.cells ∧ n ≤ M.2.2.2.2.slots) (hQ : Q (some (.long v)) G) : Runs C M k n pc P (.long v :: []) G Q := by
  intro hw p e s m args below meth c T locs L hx hby hml hr0 hnm hown hZ hf hsz X hR hF
  exact ⟨T, locs, k, n, _, G, X, hk.1, hk.2, hR, hF, hQ, (fun u => by rw [hret] at u; cases u), fun fs hr => X.lreturnOut hx (hr0.trans hret) (hb hby d.1) hr⟩
theorem Runs.retV (d : DAt M pc .return_ 1 q) (hret : M.2.2.2.1 = none) (hk : k ≤ M.2.2.2.2.cells ∧ n ≤ M.2.2.2.2.slots) (hQ : Q none G) : Runs C M k n pc P [] G Q := by
  intro hw p e s m args below meth c T locs L hx hby hml hr0 hnm hown hZ hf hsz X hR hF
  exact ⟨T, locs, k, n, _, G, X, hk.1, hk.2, hR, hF, hQ, (fun _ => rfl), fun fs hr => X.returnOut hx (hr0.trans hret) (hb hby d.1) hr⟩
/- a new object, and the arrays that its constructor makes -/
theorem Runs.newK (d : DAt M pc (.new idx) 3 q) (w : Jvm.Cond.classLink M.1.cls idx K.1 ∈ tables_1) (hc : k + 1 ≤ M.2.2.2.2.cells ∧ n + kN ≤ M.2.2.2.2.slots) {k' n' : Nat} (hk' : k + 1 = k') (hn' : n + kN = n') {H : List (Nat × Nat × Rec)} (hd : ∀ x ∈ H, x.1 + x.2.1 < top) (h : Runs C M k' n' q P (.ref top :: S) (top + 1, (top, 0, zrec) :: H) Q) : Runs C M k n pc P S (top, H) Q := by
  subst hk' hn'
  intro hw p e s m args below meth c T locs L hx hby hml hr0 hnm hown hZ hf hsz X hR hF
  have hqq := d.2
  subst hqq
  obtain ⟨T2, X2, s2, E2, A2, D2, st2⟩ := new1 X hx hZ hown (hw _ w) (hw _ kI) (hw _ kZ) (g := mkF m pc L S) rfl (hb hby d.1) hc.1 hc.2
  have hs : T.heap.size = top := hR.1
  rw [hs] at A2 D2 st2 s2
  have hR2 : Rep C.2.1 C.2.2.1 T2.heap (top + 1, (top, 0, zrec) :: H) := by
    refine ⟨s2, hR.2.1.ext E2, fun x hx' => ?_, ?_⟩
    · rcases List.mem_cons.mp hx' with rfl | hx'
      · refine ⟨?_, by simp, A2, fun k nd hk => ?_, fun k t hk hq => by simp at hq, fun k t hk hq => ?_⟩
        · have := hR.2.1.2.1; rw [hR.2.1.1] at this; simp only; omega
        · rcases (All.mem kS (List.mem_of_getElem? hk)).2 with e | e
          · have := D2 (laidS hw hk) (ty := .int) (by rw [e]; decide); exact this
          · have := D2 (laidS hw hk) (ty := .boolean) (by rw [e]; decide); exact this
        · have := D2 (laidA hw hk) (pfA hk); exact this
      · obtain ⟨p1, p2, p3⟩ := hR.2.2.1 x hx'
        exact ⟨p1, by simp only at p2 ⊢; omega, p3.ext E2⟩
    · exact List.pairwise_cons.mpr ⟨fun y hy => Or.inr (hd y hy), hR.2.2.2⟩
  obtain ⟨T', locs', k', n', r, G', g1, g2, g3, g4, g5, g6, g7, g8⟩ := h hw p e s m args below meth c T2 _ L hx hby hml hr0 hnm hown hZ hf hsz X2 hR2 hF
  exact ⟨T', locs', k', n', r, G', g1, g2, g3, g4, g5, g6, g7, fun fs hr => st2 _ (g8 fs hr)⟩
/-- newarray and the putfield behind it: the next array of an object that is being made -/
theorem Runs.newArr {aty : ArrayType} {ty : FieldType} {len : Int32} {q1 : Nat} (d : DAt M pc (.newarray aty) 2 q1) (d' : DAt M q1 (.putfield idx) 3 q) (hk : K.2.2[j]? = some (nm, ty, len)) (w : Jvm.Cond.fieldLink M.1.cls idx K.1 nm (aD ty) ∈ tables_1) (ht : newarray.typeOf aty = ty) (wa : Jvm.Cond.arrayClass ty ∈ tables_1) (hm : Mine M nm (aD ty))
    (htop : top = a + 1 + j) (hlen : ¬ len < 0 ∧ len.toNatClampNeg * 8 ≤ 536870912) (hc : k + 1 ≤ M.2.2.2.2.cells ∧ n + len.toNatClampNeg ≤ M.2.2.2.2.slots) (hz : (∀ i, ob.2.1 j i = 0) ∧ (∀ i, ob.2.2 j i = 0)) {j' top' k' n' : Nat} (hj' : j + 1 = j') (ht' : top + 1 = top') (hk' : k + 1 = k') (hn' : n + len.toNatClampNeg = n')
    (h : Runs C M k' n' q P S (top', (a, j', ob) :: H) Q) : Runs C M k n pc P (.int len :: .ref a :: S) (top, (a, j, ob) :: H) Q := by
  subst hj' ht' hk' hn'
  intro hw p e s m args below meth c T locs L hx hby hml hr0 hnm hown hZ hf hsz X hR hF
  have hqq := d.2
  have hqq' := d'.2
  subst hqq hqq' ht
  obtain ⟨T1, cA, X1, s1, E1, A1, st1⟩ := newArr1 X hx hZ (hw _ wa) (g := mkF m pc L (.int len :: .ref a :: S)) rfl (hb hby d.1) rfl hlen.1 hlen.2 hc.1 hc.2
  have hs : T.heap.size = top := hR.1
  rw [hs] at A1 st1 s1
  have O1 := hR.objs.2.2.ext E1
  obtain ⟨T2, h2, X2, e2, W2, st2⟩ := putF X1 hx hZ hown (host := "") (Or.inl (hw _ w)) Via.refl rfl (O1.2.2.2 j _ hk (Nat.le_refl _)) O1.1 (lw_of hw ((All.mem kA (List.mem_of_getElem? hk)).1) (hm.imp id (fun u => ⟨u.1, hnm.trans u.2⟩))) (hw _ kI) (ty := .array (newarray.typeOf aty)) (pfA hk) rfl rfl (g := mkF m (pc + 2) L (.ref top :: .ref a :: S)) rfl rfl (hb hby d'.1)
  have hts : (newarray.typeOf aty = .int ∨ newarray.typeOf aty = .boolean ∨ newarray.typeOf aty = .long) := (All.mem kA (List.mem_of_getElem? hk)).2.1
  have hA := arr_new A1 hts hz
  have hR2 : Rep C.2.1 C.2.2.1 T2.heap (top + 1, (a, j + 1, ob) :: H) := by rw [e2]; exact hR.addA hw E1 s1 htop hk hA W2
  obtain ⟨T', locs', k', n', r, G', g1, g2, g3, g4, g5, g6, g7, g8⟩ := h hw p e s m args below meth c T2 _ L hx hby hml hr0 hnm hown hZ hf hsz X2 hR2 (Fr.snoc X2 hF hR.objs.1)
  exact ⟨T', locs', k', n', r, G', g1, g2, g3, g4, g5, g6, g7, fun fs hr => st1 _ (st2 _ (g8 fs hr))⟩
theorem Runs.initO {W : Nat} (d : DAt M pc (.invokespecial idx) 3 q) (w1 : Jvm.Cond.methodLink M.1.cls idx Lib.objectInit ∈ tables_1) (w2 : Jvm.Cond.instanceMethod Lib.objectInit ∈ tables_1) (w3 : Jvm.Cond.code Lib.objectInit ⟨#[0xb1]⟩ 1 none ∈ tables_1) (hW : (S.map fun v => v.category).sum = W) (hc : 1 ≤ M.2.2.2.2.frames ∧ W + 12 ≤ M.2.2.2.2.locals) (h : Runs C M k n q P S G Q) : Runs C M k n pc P (.ref a :: S) G Q := by
  intro hw p e s m args below meth c T locs L hx hby hml hr0 hnm hown hZ hf hsz X hR hF
  have hqq := d.2
  subst hqq
  obtain ⟨T1, X1, e1, st1⟩ := Jvm.RoadKit.initO X hx hZ hown (hw _ w1) (hw _ w2) (hw _ w3) rfl (g := mkF m pc L (.ref a :: S)) rfl (by rw [hml]; exact hsz) rfl (hb hby d.1) hc.1 (W := W) (by show 2 * 0 + _ ≤ _; omega) hc.2
  obtain ⟨T', locs', k', n', r, G', g1, g2, g3, g4, g5, g6, g7, g8⟩ := h hw p e s m args below meth c T1 _ L hx hby hml hr0 hnm hown hZ hf hsz X1 (by rw [e1]; exact hR) hF
  exact ⟨T', locs', k', n', r, G', g1, g2, g3, g4, g5, g6, g7, fun fs hr => st1 _ (g8 fs hr)⟩
end Heap
/- a body's contract, and the calls that are paid by one -/
def Pays (C : Ctx) (N : Bdy) (as : List Value) (G : AH) (Q : Option Value → AH → Prop) : Prop :=
  Ok C → ∀ h0 : Heap, Rep C.2.1 C.2.2.1 h0 G → ∀ ws : List Jvm.Cond, MetFree C.1 N.1 (head1 (Jvm.Cond.code N.1 N.2.1 N.2.2.1 N.2.2.2.1 :: ws) N.2.2.2.2) (fun a U => a = as.toArray ∧ C.2.1.Warmed39 U.vm ∧ U.heap = h0) (fun _ _ _ _ _ => True)
    (fun _ U o U' => ∃ v L, o = .returned v ∧ (Fr C.2.2.1 L ∧ ∃ G', Rep C.2.1 C.2.2.1 U'.heap G' ∧ Q v G') ∧ FrameEnd U o U' L N.2.2.2.2.cells N.2.2.2.2.slots)
def lay : List Value → List Slot
  | [] => []
  | v :: l => if v.category = 2 then .val v :: .second :: lay l else .val v :: lay l
theorem lay_foldl (l : List Value) : ∀ acc : Array Slot, (l.foldl (fun acc v => if v.category = 2 then (acc.push (.val v)).push .second else acc.push (.val v)) acc).toList = acc.toList ++ lay l := by
  induction l with
  | nil => intro acc; simp [lay]
  | cons v l ih =>
    intro acc
    rw [List.foldl_cons, ih]
    by_cases h : v.category = 2 <;> simp [lay, h]
theorem args_lay (as : List Value) (ml : Nat) : argsToLocals as.toArray ml = (lay as ++ List.replicate (ml - (lay as).length) Slot.unset).toArray := by
  have h := lay_foldl as #[]
  apply Array.ext'
  simp only [argsToLocals, Array.toList_append, List.toList_toArray] at *
  rw [show (as.toArray.foldl (init := #[]) fun acc v => if v.category = 2 then (acc.push (Slot.val v)).push .second else acc.push (.val v)).toList = lay as by simpa using h]
  congr 1
  rw [← Array.length_toList, show (as.toArray.foldl (init := #[]) fun acc v => if v.category = 2 then (acc.push (Slot.val v)).push .second else acc.push (.val v)).toList = lay as by simpa using h]
  simp
def WFL (l : List Slot) : Prop := (∀ i : Nat, l[i]? = some .second → ∃ (j : Nat) (v : Value), i = j + 1 ∧ l[j]? = some (.val v) ∧ v.category = 2) ∧ (∀ (i : Nat) (v : Value), l[i]? = some (.val v) → v.category = 2 → l[i + 1]? = some .second)
theorem WFL.unset (n : Nat) : WFL (List.replicate n Slot.unset) := by
  refine ⟨fun i h => ?_, fun i v h => ?_⟩ <;> (rw [List.getElem?_replicate] at h; split at h <;> cases h)
theorem WFL.one {l : List Slot} {v : Value} (h : WFL l) (hv : v.category ≠ 2) : WFL (.val v :: l) := by
  refine ⟨fun i hi => ?_, fun i w hi hw => ?_⟩
  · cases i with
    | zero => simp at hi
    | succ i =>
      obtain ⟨j, w, e1, e2, e3⟩ := h.1 i (by simpa using hi)
      exact ⟨j + 1, w, by omega, by simpa using e2, e3⟩
  · cases i with
    | zero => simp at hi; subst hi; exact absurd hw hv
    | succ i => have := h.2 i w (by simpa using hi) hw; simpa using this
theorem WFL.two {l : List Slot} {v : Value} (h : WFL l) (hv : v.category = 2) : WFL (.val v :: .second :: l) := by
  refine ⟨fun i hi => ?_, fun i w hi hw => ?_⟩
  · match i, hi with
    | 0, hi => simp at hi
    | 1, hi => exact ⟨0, v, rfl, by simp, hv⟩
    | i + 2, hi =>
      obtain ⟨j, w, e1, e2, e3⟩ := h.1 i (by simpa using hi)
      exact ⟨j + 2, w, by omega, by simpa using e2, e3⟩
  · match i, hi with
    | 0, hi => simp
    | 1, hi => simp at hi
    | i + 2, hi => have := h.2 i w (by simpa using hi) hw; simpa using this
theorem WFL.lay (as : List Value) (n : Nat) : WFL (lay as ++ List.replicate n Slot.unset) := by
  induction as with
  | nil => exact WFL.unset n
  | cons v l ih =>
    by_cases h : v.category = 2
    · simpa [Jvm.Pilot.@@N@@.lay, h] using ih.two h
    · simpa [Jvm.Pilot.@@N@@.lay, h] using ih.one h
def pforget : List Bool → Pat → Pat
  | [], _ => []
  | _, [] => []
  | true :: ms, x :: l => x :: pforget ms l
  | false :: ms, _ :: l => none :: pforget ms l
theorem pforget_get : ∀ (ms : List Bool) (P : Pat) (i : Nat) (s : Slot), pget (pforget ms P) i = some s → pget P i = some s
  | [], _, i, s, h => by simp [pforget, pget] at h
  | _ :: _, [], i, s, h => by simp [pforget, pget] at h
  | true :: ms, x :: l, 0, s, h => h
  | true :: ms, x :: l, i + 1, s, h => pforget_get ms l i s h
  | false :: ms, x :: l, 0, s, h => by simp [pforget, pget] at h
  | false :: ms, x :: l, i + 1, s, h => pforget_get ms l i s h
section Calls
variable {C : Ctx} {M N : Bdy} {k n pc q : Nat} {P P' : Pat} {S S' : List Value} {G G1 : AH} {Q : Option Value → AH → Prop} {top : Nat} {a : Nat} {qq j idx W : Nat} {ob : Rec} {H : List (Nat × Nat × Rec)} {as : List Value}
theorem Runs.forget (ms : List Bool) (hP : pforget ms P = P') (h : Runs C M k n pc P' S G Q) : Runs C M k n pc P S G Q := by
  intro hw p e s m args below meth c T locs L hx hby hml hret hnm hown hZ hf
  subst hP
  exact h hw p e s m args below meth c T locs L hx hby hml hret hnm hown hZ ⟨fun i s hi => hf.1 i s (pforget_get _ _ i s hi), hf.2⟩
theorem Pays.of (hpl : plainName N.1.cls = true) (hml : (lay as).length ≤ N.2.2.1) (x : Nat) (hP : (lay as).map some ++ List.replicate x none = P) (h : Runs C N 0 0 0 P [] G Q) : Pays C N as G Q := by
  intro hw h0 hR ws
  refine MetFree.of_bodySF (plainFor_of_name hpl) hisR ?_
  intro p e s m args below meth c s₁ Bd hml0 hp hK
  obtain ⟨rfl, hZ, hh⟩ := hp
  have X0 : Stand p C.1 e N.2.2.2.2 s m as.toArray below meth c s₁ [] 0 0 := Stand.of_body Bd
  have e0 : s₁.heap = h0 := by rw [← hh, Bd.state]; rfl
  obtain ⟨L, hL⟩ : ∃ L : Array Slot, L = (lay as ++ List.replicate (N.2.2.1 - (lay as).length) Slot.unset).toArray := ⟨_, rfl⟩
  have hfit : Fits P L := by
    subst hP hL
    refine ⟨fun i s hi => ?_, ?_⟩
    · rw [pget_eq] at hi
      cases hq : (lay as)[i]? with
      | none =>
        rw [List.getElem?_append_right (by simpa using hq), List.getElem?_replicate] at hi
        split at hi <;> simp at hi
      | some y =>
        have hlt := (List.getElem?_eq_some_iff.mp hq).1
        rw [List.getElem?_append_left (by simpa using hlt), List.getElem?_map, hq] at hi
        have this : y = s := by simpa using hi
        simp only [List.getElem?_toArray]
        rw [List.getElem?_append_left hlt, hq, this]
    · have := WFL.lay as (N.2.2.1 - (lay as).length)
      refine ⟨fun i hi => ?_, fun i v hi hv => ?_⟩
      · rw [List.getElem?_toArray] at hi
        obtain ⟨j, v, e1, e2, e3⟩ := this.1 i hi
        exact ⟨j, v, e1, by rw [List.getElem?_toArray]; exact e2, e3⟩
      · rw [List.getElem?_toArray] at hi ⊢
        exact this.2 i v hi hv
  obtain ⟨T', locs', k', n', r, G', g1, g2, g3, g4, g5, g6, g7, g8⟩ := h hw p e s m as.toArray below meth c s₁ [] L Bd.exec Bd.bytes hml0 Bd.returns (name_of_methodNamed Bd.named Bd.method).1 (findClass_of_methodNamed Bd.named) hZ hfit (by rw [hL]; simp; omega) X0 (by rw [e0]; exact hR) (Fr.nil _)
  obtain ⟨fs, hr, hrun, hended, hW, hsame⟩ := g1.leave (v := r) (fun u => g7 (by rw [← Bd.returns]; exact u))
  refine ⟨_, _, ?_, hrun, hended, _, _, rfl, ⟨g5, G', ?_, g6⟩, ⟨_, rfl⟩, hW, hsame.mono g2 g3⟩
  · have ef : entryFrame m as.toArray N.2.2.1 = mkF m 0 L [] := by
      rw [hL, ← args_lay]; rfl
    rw [ef]; exact g8 fs hr
  · exact g4
abbrev room_al (M N : Bdy) (W k n : Nat) : Prop := N.2.2.2.2.frames + 1 ≤ M.2.2.2.2.frames ∧ W + (N.2.2.1 + 11) + N.2.2.2.2.locals ≤ M.2.2.2.2.locals ∧ k + N.2.2.2.2.cells ≤ M.2.2.2.2.cells ∧ n + N.2.2.2.2.slots ≤ M.2.2.2.2.slots
abbrev room_ok (M N : Bdy) (W : Nat) : Prop := N.2.2.2.2.frames + 1 ≤ M.2.2.2.2.frames ∧ W + (N.2.2.1 + 11) + N.2.2.2.2.locals ≤ M.2.2.2.2.locals ∧ N.2.2.2.2.cells = 0 ∧ N.2.2.2.2.slots = 0
abbrev full_ok (M : Bdy) (k n : Nat) : Prop := k ≤ M.2.2.2.2.cells ∧ n ≤ M.2.2.2.2.slots
theorem room_ok.al (h : room_ok M N W) (f : full_ok M k n) : room_al M N W k n := ⟨h.1, h.2.1, by rw [h.2.2.1]; exact f.1, by rw [h.2.2.2]; exact f.2⟩
abbrev code_w (N : Bdy) : Prop := Jvm.Cond.code N.1 N.2.1 N.2.2.1 N.2.2.2.1 ∈ tables_1 ∧ Jvm.Cond.initialized N.1.cls ∈ tables_1 ∧ (N.1.cls ≠ "java/lang/invoke/MethodHandle" ∧ N.1.cls ≠ "java/lang/invoke/VarHandle")
def arity (N : Bdy) (na : Nat) : Prop := ∃ ps r, parseMethodDescriptor N.1.desc = some ⟨ps, r⟩ ∧ na = ps.length
theorem arity.len {na : Nat} (h : arity N na) (e : as.length = na) : ∀ sig, parseMethodDescriptor N.1.desc = some sig → as.length = sig.parameters.length := by
  obtain ⟨ps, r, h1, h2⟩ := h
  exact lenOf h1 (e.trans h2)
theorem after_call {v : Option Value} {p : Program} {e : Env} {s : State} {m : MethodId} {args : Array Value} {below : List Frame} {meth : Method} {c : Code} {T T0 : State} {locs : List Loc} {L : Array Slot} {QN : Option Value → AH → Prop} {Lc : List Loc}
    (hw : Ok C) (hx : p.tables.exec = Jvm.exec) (hby : c.code = M.2.1) (hml : c.maxLocals = M.2.2.1) (hret : meth.sig.returnType = M.2.2.2.1) (hnm : meth.name = M.1.name) (hown : s.vm.findClass M.1.cls = some m.cls) (hZ : C.2.1.Warmed39 s.vm) (hf : Fits P L) (hsz : L.size = M.2.2.1) (hF : Fr C.2.2.1 locs)
    (X : Stand p C.1 e M.2.2.2.2 s m args below meth c T (locs ++ Lc) (k + N.2.2.2.2.cells) (n + N.2.2.2.2.slots)) (hQ : Fr C.2.2.1 Lc ∧ ∃ G', Rep C.2.1 C.2.2.1 T.heap G' ∧ QN v G')
    (h : ∀ v G', QN v G' → Runs C M (k + N.2.2.2.2.cells) (n + N.2.2.2.2.slots) (pc + 3) P (v.toList ++ S') G' Q)
    (st : ∀ t, Steps p.tables e below (T.setTop (mkF m (pc + 3) L (v.toList ++ S'))) t → Steps p.tables e below (T0.setTop (mkF m pc L S)) t) :
    ∃ (T' : State) (locs' : List Loc) (k' n' : Nat) (r : Option Value) (G' : AH), Stand p C.1 e M.2.2.2.2 s m args below meth c T' locs' k' n' ∧ k' ≤ M.2.2.2.2.cells ∧ n' ≤ M.2.2.2.2.slots ∧ Rep C.2.1 C.2.2.1 T'.heap G' ∧ Fr C.2.2.1 locs' ∧ Q r G' ∧
      (M.2.2.2.1 = none → r = none) ∧
      ∀ fs : List Frame, (∀ (f : JFrame) (acts : List Action), f.method = m → f.locked = none → f.entered = [] → (doReturn e (T'.setTop f) acts r).1 = T'.setFrames fs) → Steps p.tables e below (T0.setTop (mkF m pc L S)) (T'.setFrames fs) := by
  obtain ⟨f1, G', f2, f3⟩ := hQ
  obtain ⟨T', locs', k', n', r, G'', g1, g2, g3, g4, g5, g6, g7, g8⟩ := h v G' f3 hw p e s m args below meth c T _ L hx hby hml hret hnm hown hZ hf hsz X f2 (Fr.app hF f1)
  exact ⟨T', locs', k', n', r, G'', g1, g2, g3, g4, g5, g6, g7, fun fs hr => st _ (g8 fs hr)⟩
theorem Runs.callS {QN : Option Value → AH → Prop} (d : DAt M pc (.invokestatic idx) 3 q) (wl : Jvm.Cond.methodLink M.1.cls idx N.1 ∈ tables_1) (wt : Jvm.Cond.static N.1 ∈ tables_1) (wc : code_w N) (ar : arity N as.length) (hr0 : room_ok M N W) (hfull : full_ok M k n) (hS : S = as.reverse ++ S') (hW : (S'.map fun v => v.category).sum = W)
    (hN : Pays C N as G QN) (h : ∀ v G', QN v G' → Runs C M k n q P (v.toList ++ S') G' Q) : Runs C M k n pc P S G Q := by
  intro hw p e s m args below meth c T locs L hx hby hml hret hnm hown hZ hf hsz X hR hF
  have hq := d.2
  subst hq hS
  have hr := hr0.al hfull
  obtain ⟨_, _, ⟨T1, L1, k1, n1⟩, -, X1, ⟨Lc, hQ, l1, y1, z1⟩, st⟩ := Jvm.LawKit.callS X hx (y := N.1) hown (mvT hZ (hw _ wl)) (mvT hZ (hw _ wt)) (mvT hZ (hw _ wc.2.1)) (mvT hZ (hw _ wc.1)) wc.2.2 (backOf (W := W) (Q := fun v h L => Fr C.2.2.1 L ∧ ∃ G', Rep C.2.1 C.2.2.1 h G' ∧ QN v G') (hN hw T.heap hR []) hZ (hw _ wc.1) (hw _ wc.2.1) hr.1 hr.2.1) (g := mkF m pc L (as.reverse ++ S')) rfl (by rw [hml]; exact hsz) (argsL := as) (rest := S') (ar.len rfl) rfl (by show 2 * 0 + _ ≤ _; omega) (hb hby d.1) (fun _ _ => ⟨rfl, rfl, hr.2.2.1, hr.2.2.2⟩)
  dsimp only [Pt.U, Pt.locs, Pt.cells, Pt.slots] at X1 l1 y1 z1 st hQ
  subst l1 y1 z1
  exact after_call hw hx hby hml hret hnm hown hZ hf hsz hF X1 hQ (by rw [hr0.2.2.1, hr0.2.2.2]; exact h) (fun t u => st t u)
theorem Runs.callV {QN : Option Value → AH → Prop} (d : DAt M pc (.invokevirtual idx) 3 q) (wl : Jvm.Cond.methodLink M.1.cls idx N.1 ∈ tables_1) (wd : Jvm.Cond.declares N.1 ∈ tables_1) (wi : Jvm.Cond.instanceMethod N.1 ∈ tables_1) (ws : Jvm.Cond.selects K.1 N.1 N.1 ∈ tables_1) (wc : code_w N) (ar : arity N as.length) (hr0 : room_ok M N W) (hfull : full_ok M k n) (hS : S = as.reverse ++ .ref a :: S') (hW : (S'.map fun v => v.category).sum = W)
    (hN : Pays C N (.ref a :: as) (top, (a, qq, ob) :: H) QN) (h : ∀ v G', QN v G' → Runs C M k n q P (v.toList ++ S') G' Q) : Runs C M k n pc P S (top, (a, qq, ob) :: H) Q := by
  intro hw p e s m args below meth c T locs L hx hby hml hret hnm hown hZ hf hsz X hR hF
  have hq := d.2
  subst hq hS
  have hr := hr0.al hfull
  obtain ⟨cB, kB, u1, -, u3⟩ := isOf hZ rfl hR.objs.2.2.1
  obtain ⟨_, _, ⟨T1, L1, k1, n1⟩, -, X1, ⟨Lc, hQ, l1, y1, z1⟩, st⟩ := X.virtualBack hx (y := N.1) (z := N.1) hown (mvT hZ (hw _ wl)) (mvT hZ (hw _ wd)) (notFace_of_selects (args := #[]) (mvT hZ (hw _ ws))) (mvT hZ (hw _ ws)) (mvT hZ (hw _ wi)) wc.2.2 (backOf (W := W) (Q := fun v h L => Fr C.2.2.1 L ∧ ∃ G', Rep C.2.1 C.2.2.1 h G' ∧ QN v G') (hN hw T.heap hR []) hZ (hw _ wc.1) (hw _ wc.2.1) hr.1 hr.2.1) u1 u3 (g := mkF m pc L (as.reverse ++ .ref a :: S')) rfl (by rw [hml]; exact hsz) (Steps.refl _) (argsL := as) (rest := S') (ar.len rfl) rfl (by show 2 * 0 + _ ≤ _; omega) (hb hby d.1) (fun _ _ => ⟨rfl, rfl, hr.2.2.1, hr.2.2.2⟩)
  dsimp only [Pt.U, Pt.locs, Pt.cells, Pt.slots] at X1 l1 y1 z1 st hQ
  subst l1 y1 z1
  exact after_call hw hx hby hml hret hnm hown hZ hf hsz hF X1 hQ (by rw [hr0.2.2.1, hr0.2.2.2]; exact h) (fun t u => st.trans u)
theorem Runs.callP {QN : Option Value → AH → Prop} (d : DAt M pc (.invokevirtual idx) 3 q) (wl : Jvm.Cond.methodLink M.1.cls idx N.1 ∈ tables_1) (wi : Jvm.Cond.instanceMethod N.1 ∈ tables_1) (wp : Jvm.Cond.privateMethod N.1 ∈ tables_1) (wK : N.1.cls = K.1) (wc : code_w N) (ar : arity N as.length) (hr0 : room_ok M N W) (hfull : full_ok M k n) (hS : S = as.reverse ++ .ref a :: S') (hW : (S'.map fun v => v.category).sum = W)
    (hN : Pays C N (.ref a :: as) (top, (a, qq, ob) :: H) QN) (h : ∀ v G', QN v G' → Runs C M k n q P (v.toList ++ S') G' Q) : Runs C M k n pc P S (top, (a, qq, ob) :: H) Q := by
  intro hw p e s m args below meth c T locs L hx hby hml hret hnm hown hZ hf hsz X hR hF
  have hq := d.2
  subst hq hS
  have hr := hr0.al hfull
  obtain ⟨cl, u1, u2⟩ := hR.objs.2.2.1.cell
  have hpr : s.PrivateAt N.1 := Cond.privateMethod_at (mvP hZ (hw _ wp) (args := #[]))
  obtain ⟨c2, k2, i1, i2, i3, i4, -⟩ := Cond.instantiable_spec (mvT (args := args) hZ (hw _ kI))
  have hsel : (Jvm.Cond.selects N.1.cls N.1 N.1).before args s = true := Stand.selects_self_of_private (by rw [wK]; exact i1) i2 (by simp at i4; exact i4.1) hpr (mvT hZ (hw _ wi)) wc.2.2
  obtain ⟨_, _, ⟨T1, L1, k1, n1⟩, -, X1, ⟨Lc, hQ, l1, y1, z1⟩, st⟩ := X.privateBack hx (y := N.1) hown (mvT hZ (hw _ wl)) (mvT hZ (hw _ wi)) hsel hpr (mvT hZ (hw _ wc.1)) wc.2.2 (backOf (W := W) (Q := fun v h L => Fr C.2.2.1 L ∧ ∃ G', Rep C.2.1 C.2.2.1 h G' ∧ QN v G') (hN hw T.heap hR []) hZ (hw _ wc.1) (hw _ wc.2.1) hr.1 hr.2.1) (g := mkF m pc L (as.reverse ++ .ref a :: S')) rfl (by rw [hml]; exact hsz) (Steps.refl _) (a := a) u1 u2 (argsL := as) (rest := S') (ar.len rfl) rfl (by show 2 * 0 + _ ≤ _; omega) (hb hby d.1) (fun _ _ => ⟨rfl, rfl, hr.2.2.1, hr.2.2.2⟩)
  dsimp only [Pt.U, Pt.locs, Pt.cells, Pt.slots] at X1 l1 y1 z1 st hQ
  subst l1 y1 z1
  exact after_call hw hx hby hml hret hnm hown hZ hf hsz hF X1 hQ (by rw [hr0.2.2.1, hr0.2.2.2]; exact h) (fun t u => st.trans u)
theorem Runs.callI {QN : Option Value → AH → Prop} (d : DAt M pc (.invokespecial idx) 3 q) (hi : N.1.name = "<init>") (hn : N.2.2.2.1 = none) (wl : Jvm.Cond.methodLink M.1.cls idx N.1 ∈ tables_1) (wi : Jvm.Cond.instanceMethod N.1 ∈ tables_1) (wc : code_w N) (ar : arity N as.length) (hr : room_al M N W k n) (hS : S = as.reverse ++ .ref a :: S') (hW : (S'.map fun v => v.category).sum = W) {k' n' : Nat} (hk' : k + N.2.2.2.2.cells = k') (hn' : n + N.2.2.2.2.slots = n')
    (hN : Pays C N (.ref a :: as) G QN) (h : ∀ v G', QN v G' → Runs C M k' n' q P (v.toList ++ S') G' Q) : Runs C M k n pc P S G Q := by
  intro hw p e s m args below meth c T locs L hx hby hml hret hnm hown hZ hf hsz X hR hF
  have hq := d.2
  subst hq hS hk' hn'
  have wc1 := hw _ wc.1
  obtain ⟨_, _, ⟨T1, L1, k1, n1⟩, -, X1, ⟨Lc, hQ, l1, y1, z1⟩, st⟩ := X.specialBack hx (y := N.1) hi hown (mvT hZ (hw _ wl)) (mvT hZ (hw _ wi)) (bytes := N.2.1) (maxL := N.2.2.1) (by have := mvT (args := args) hZ wc1; rw [hn] at this; exact this) wc.2.2 (backOf (W := W) (Q := fun v h L => Fr C.2.2.1 L ∧ ∃ G', Rep C.2.1 C.2.2.1 h G' ∧ QN v G') (hN hw T.heap hR []) hZ wc1 (hw _ wc.2.1) hr.1 hr.2.1) (g := mkF m pc L (as.reverse ++ .ref a :: S')) rfl (by rw [hml]; exact hsz) (Steps.refl _) (a := a) (argsL := as) (rest := S') (ar.len rfl) rfl (by show 2 * 0 + _ ≤ _; omega) (hb hby d.1) (fun _ _ => ⟨rfl, rfl, hr.2.2.1, hr.2.2.2⟩)
  dsimp only [Pt.U, Pt.locs, Pt.cells, Pt.slots] at X1 l1 y1 z1 st hQ
  subst l1 y1 z1
  exact after_call hw hx hby hml hret hnm hown hZ hf hsz hF X1 hQ h (fun t u => st.trans u)
/-- the plain form of a contract: one answer, one heap -/
abbrev Ans (r : Option Value) (G1 : AH) : Option Value → AH → Prop := fun v G' => v = r ∧ G' = G1
theorem ans1 {x : Value} {k n : Nat} (h : Runs C M k n pc P (x :: S) G1 Q) : ∀ v G', Ans (some x) G1 v G' → Runs C M k n pc P (v.toList ++ S) G' Q := by
  rintro v G' ⟨rfl, rfl⟩; exact h
theorem ans0 {k n : Nat} (h : Runs C M k n pc P S G1 Q) : ∀ v G', Ans none G1 v G' → Runs C M k n pc P (v.toList ++ S) G' Q := by
  rintro v G' ⟨rfl, rfl⟩; exact h
end Calls
theorem pnK : plainName "CausalStable" = true := by first | (simp [plainName, overriddenIn]; done) | decide +kernel
theorem pnL : plainName "CausalStableOwnLaw" = true := by first | (simp [plainName, overriddenIn]; done) | decide +kernel
theorem w0 : (Jvm.Cond.methodLink "CausalStableOwnLaw" (7 : Nat) ({ cls := "CausalStableOwnLaw", name := "cell", desc := "([II)I" } : Jvm.MethodName)) ∈ tables_1 := mem1 0 rfl
theorem w1 : (Jvm.Cond.static ({ cls := "CausalStableOwnLaw", name := "cell", desc := "([II)I" } : Jvm.MethodName)) ∈ tables_1 := mem1 1 rfl
theorem w4 : (Jvm.Cond.classLink "CausalStableOwnLaw" (13 : Nat) "CausalStable") ∈ tables_1 := mem1 4 rfl
theorem w7 : (Jvm.Cond.methodLink "CausalStableOwnLaw" (15 : Nat) ({ cls := "CausalStable", name := "<init>", desc := "(II)V" } : Jvm.MethodName)) ∈ tables_1 := mem1 7 rfl
theorem w8 : (Jvm.Cond.instanceMethod ({ cls := "CausalStable", name := "<init>", desc := "(II)V" } : Jvm.MethodName)) ∈ tables_1 := mem1 8 rfl
theorem w10 : (Jvm.Cond.methodLink "CausalStable" (1 : Nat) ({ cls := "java/lang/Object", name := "<init>", desc := "()V" } : Jvm.MethodName)) ∈ tables_1 := mem1 10 rfl
theorem w11 : (Jvm.Cond.instanceMethod ({ cls := "java/lang/Object", name := "<init>", desc := "()V" } : Jvm.MethodName)) ∈ tables_1 := mem1 11 rfl
theorem w12 : (Jvm.Cond.code ({ cls := "java/lang/Object", name := "<init>", desc := "()V" } : Jvm.MethodName) object_method_1_code (1 : Nat) (Option.none : Option Jvm.ClassFile.FieldType)) ∈ tables_1 := mem1 12 rfl
theorem w13 : (Jvm.Cond.arrayClass Jvm.ClassFile.FieldType.int) ∈ tables_1 := mem1 13 rfl
theorem w14 : (Jvm.Cond.fieldLink "CausalStable" (7 : Nat) "CausalStable" "sentCount" "[I") ∈ tables_1 := mem1 14 rfl
theorem w15 : (Jvm.Cond.lays "CausalStable" "CausalStable" "sentCount" "[I") ∈ tables_1 := mem1 15 rfl
theorem w16 : (Jvm.Cond.arrayClass Jvm.ClassFile.FieldType.boolean) ∈ tables_1 := mem1 16 rfl
theorem w17 : (Jvm.Cond.fieldLink "CausalStable" (13 : Nat) "CausalStable" "crashedFlag" "[Z") ∈ tables_1 := mem1 17 rfl
theorem w18 : (Jvm.Cond.lays "CausalStable" "CausalStable" "crashedFlag" "[Z") ∈ tables_1 := mem1 18 rfl
theorem w19 : (Jvm.Cond.fieldLink "CausalStable" (17 : Nat) "CausalStable" "del" "[I") ∈ tables_1 := mem1 19 rfl
theorem w20 : (Jvm.Cond.lays "CausalStable" "CausalStable" "del" "[I") ∈ tables_1 := mem1 20 rfl
theorem w21 : (Jvm.Cond.fieldLink "CausalStable" (20 : Nat) "CausalStable" "msgState" "[I") ∈ tables_1 := mem1 21 rfl
theorem w22 : (Jvm.Cond.lays "CausalStable" "CausalStable" "msgState" "[I") ∈ tables_1 := mem1 22 rfl
theorem w23 : (Jvm.Cond.fieldLink "CausalStable" (23 : Nat) "CausalStable" "stampArr" "[I") ∈ tables_1 := mem1 23 rfl
theorem w24 : (Jvm.Cond.lays "CausalStable" "CausalStable" "stampArr" "[I") ∈ tables_1 := mem1 24 rfl
theorem w25 : (Jvm.Cond.fieldLink "CausalStable" (26 : Nat) "CausalStable" "copyArr" "[I") ∈ tables_1 := mem1 25 rfl
theorem w26 : (Jvm.Cond.lays "CausalStable" "CausalStable" "copyArr" "[I") ∈ tables_1 := mem1 26 rfl
theorem w27 : (Jvm.Cond.fieldLink "CausalStable" (29 : Nat) "CausalStable" "known" "[I") ∈ tables_1 := mem1 27 rfl
theorem w28 : (Jvm.Cond.lays "CausalStable" "CausalStable" "known" "[I") ∈ tables_1 := mem1 28 rfl
theorem w29 : (Jvm.Cond.fieldLink "CausalStable" (32 : Nat) "CausalStable" "list" "[I") ∈ tables_1 := mem1 29 rfl
theorem w30 : (Jvm.Cond.lays "CausalStable" "CausalStable" "list" "[I") ∈ tables_1 := mem1 30 rfl
theorem w31 : (Jvm.Cond.fieldLink "CausalStable" (35 : Nat) "CausalStable" "listLen" "[I") ∈ tables_1 := mem1 31 rfl
theorem w32 : (Jvm.Cond.lays "CausalStable" "CausalStable" "listLen" "[I") ∈ tables_1 := mem1 32 rfl
theorem w33 : (Jvm.Cond.fieldLink "CausalStable" (38 : Nat) "CausalStable" "n" "I") ∈ tables_1 := mem1 33 rfl
theorem w34 : (Jvm.Cond.lays "CausalStable" "CausalStable" "n" "I") ∈ tables_1 := mem1 34 rfl
theorem w35 : (Jvm.Cond.fieldLink "CausalStable" (42 : Nat) "CausalStable" "cap" "I") ∈ tables_1 := mem1 35 rfl
theorem w36 : (Jvm.Cond.lays "CausalStable" "CausalStable" "cap" "I") ∈ tables_1 := mem1 36 rfl
theorem w37 : (Jvm.Cond.methodLink "CausalStableOwnLaw" (18 : Nat) ({ cls := "CausalStableOwnLaw", name := "holds", desc := "(LCausalStable;I)Z" } : Jvm.MethodName)) ∈ tables_1 := mem1 37 rfl
theorem w38 : (Jvm.Cond.static ({ cls := "CausalStableOwnLaw", name := "holds", desc := "(LCausalStable;I)Z" } : Jvm.MethodName)) ∈ tables_1 := mem1 38 rfl
theorem w40 : (Jvm.Cond.methodLink "CausalStableOwnLaw" (62 : Nat) ({ cls := "CausalStable", name := "delivered", desc := "(II)I" } : Jvm.MethodName)) ∈ tables_1 := mem1 40 rfl
theorem w41 : (Jvm.Cond.declares ({ cls := "CausalStable", name := "delivered", desc := "(II)I" } : Jvm.MethodName)) ∈ tables_1 := mem1 41 rfl
theorem w42 : (Jvm.Cond.instanceMethod ({ cls := "CausalStable", name := "delivered", desc := "(II)I" } : Jvm.MethodName)) ∈ tables_1 := mem1 42 rfl
theorem w43 : (Jvm.Cond.selects "CausalStable" ({ cls := "CausalStable", name := "delivered", desc := "(II)I" } : Jvm.MethodName) ({ cls := "CausalStable", name := "delivered", desc := "(II)I" } : Jvm.MethodName)) ∈ tables_1 := mem1 43 rfl
theorem w45 : (Jvm.Cond.methodLink "CausalStable" (68 : Nat) ({ cls := "CausalStable", name := "validProc", desc := "(I)Z" } : Jvm.MethodName)) ∈ tables_1 := mem1 45 rfl
theorem w46 : (Jvm.Cond.instanceMethod ({ cls := "CausalStable", name := "validProc", desc := "(I)Z" } : Jvm.MethodName)) ∈ tables_1 := mem1 46 rfl
theorem w47 : (Jvm.Cond.privateMethod ({ cls := "CausalStable", name := "validProc", desc := "(I)Z" } : Jvm.MethodName)) ∈ tables_1 := mem1 47 rfl
theorem w49 : (Jvm.Cond.methodLink "CausalStableOwnLaw" (22 : Nat) ({ cls := "CausalStable", name := "sent", desc := "(I)I" } : Jvm.MethodName)) ∈ tables_1 := mem1 49 rfl
theorem w50 : (Jvm.Cond.declares ({ cls := "CausalStable", name := "sent", desc := "(I)I" } : Jvm.MethodName)) ∈ tables_1 := mem1 50 rfl
theorem w51 : (Jvm.Cond.instanceMethod ({ cls := "CausalStable", name := "sent", desc := "(I)I" } : Jvm.MethodName)) ∈ tables_1 := mem1 51 rfl
theorem w52 : (Jvm.Cond.selects "CausalStable" ({ cls := "CausalStable", name := "sent", desc := "(I)I" } : Jvm.MethodName) ({ cls := "CausalStable", name := "sent", desc := "(I)I" } : Jvm.MethodName)) ∈ tables_1 := mem1 52 rfl
theorem w54 : (Jvm.Cond.methodLink "CausalStableOwnLaw" (80 : Nat) ({ cls := "CausalStable", name := "known", desc := "(III)I" } : Jvm.MethodName)) ∈ tables_1 := mem1 54 rfl
theorem w55 : (Jvm.Cond.declares ({ cls := "CausalStable", name := "known", desc := "(III)I" } : Jvm.MethodName)) ∈ tables_1 := mem1 55 rfl
theorem w56 : (Jvm.Cond.instanceMethod ({ cls := "CausalStable", name := "known", desc := "(III)I" } : Jvm.MethodName)) ∈ tables_1 := mem1 56 rfl
theorem w57 : (Jvm.Cond.selects "CausalStable" ({ cls := "CausalStable", name := "known", desc := "(III)I" } : Jvm.MethodName) ({ cls := "CausalStable", name := "known", desc := "(III)I" } : Jvm.MethodName)) ∈ tables_1 := mem1 57 rfl
theorem w59 : (Jvm.Cond.methodLink "CausalStable" (49 : Nat) ({ cls := "CausalStable", name := "knownIndex", desc := "(III)I" } : Jvm.MethodName)) ∈ tables_1 := mem1 59 rfl
theorem w60 : (Jvm.Cond.instanceMethod ({ cls := "CausalStable", name := "knownIndex", desc := "(III)I" } : Jvm.MethodName)) ∈ tables_1 := mem1 60 rfl
theorem w61 : (Jvm.Cond.privateMethod ({ cls := "CausalStable", name := "knownIndex", desc := "(III)I" } : Jvm.MethodName)) ∈ tables_1 := mem1 61 rfl
theorem w63 : (Jvm.Cond.methodLink "CausalStableOwnLaw" (26 : Nat) ({ cls := "CausalStable", name := "broadcast", desc := "(I)I" } : Jvm.MethodName)) ∈ tables_1 := mem1 63 rfl
theorem w64 : (Jvm.Cond.declares ({ cls := "CausalStable", name := "broadcast", desc := "(I)I" } : Jvm.MethodName)) ∈ tables_1 := mem1 64 rfl
theorem w65 : (Jvm.Cond.instanceMethod ({ cls := "CausalStable", name := "broadcast", desc := "(I)I" } : Jvm.MethodName)) ∈ tables_1 := mem1 65 rfl
theorem w66 : (Jvm.Cond.selects "CausalStable" ({ cls := "CausalStable", name := "broadcast", desc := "(I)I" } : Jvm.MethodName) ({ cls := "CausalStable", name := "broadcast", desc := "(I)I" } : Jvm.MethodName)) ∈ tables_1 := mem1 66 rfl
theorem w68 : (Jvm.Cond.methodLink "CausalStable" (56 : Nat) ({ cls := "CausalStable", name := "msgIndex", desc := "(II)I" } : Jvm.MethodName)) ∈ tables_1 := mem1 68 rfl
theorem w69 : (Jvm.Cond.instanceMethod ({ cls := "CausalStable", name := "msgIndex", desc := "(II)I" } : Jvm.MethodName)) ∈ tables_1 := mem1 69 rfl
theorem w70 : (Jvm.Cond.privateMethod ({ cls := "CausalStable", name := "msgIndex", desc := "(II)I" } : Jvm.MethodName)) ∈ tables_1 := mem1 70 rfl
theorem w72 : (Jvm.Cond.methodLink "CausalStable" (64 : Nat) ({ cls := "CausalStable", name := "deliverAt", desc := "(III)V" } : Jvm.MethodName)) ∈ tables_1 := mem1 72 rfl
theorem w73 : (Jvm.Cond.instanceMethod ({ cls := "CausalStable", name := "deliverAt", desc := "(III)V" } : Jvm.MethodName)) ∈ tables_1 := mem1 73 rfl
theorem w74 : (Jvm.Cond.privateMethod ({ cls := "CausalStable", name := "deliverAt", desc := "(III)V" } : Jvm.MethodName)) ∈ tables_1 := mem1 74 rfl
theorem w76 : (Jvm.Cond.methodLink "CausalStable" (45 : Nat) ({ cls := "CausalStable", name := "stateIndex", desc := "(III)I" } : Jvm.MethodName)) ∈ tables_1 := mem1 76 rfl
theorem w77 : (Jvm.Cond.instanceMethod ({ cls := "CausalStable", name := "stateIndex", desc := "(III)I" } : Jvm.MethodName)) ∈ tables_1 := mem1 77 rfl
theorem w78 : (Jvm.Cond.privateMethod ({ cls := "CausalStable", name := "stateIndex", desc := "(III)I" } : Jvm.MethodName)) ∈ tables_1 := mem1 78 rfl
theorem w80 : (Jvm.Cond.methodLink "CausalStableOwnLaw" (56 : Nat) ({ cls := "CausalStable", name := "deliveredAt", desc := "(II)I" } : Jvm.MethodName)) ∈ tables_1 := mem1 80 rfl
theorem w81 : (Jvm.Cond.declares ({ cls := "CausalStable", name := "deliveredAt", desc := "(II)I" } : Jvm.MethodName)) ∈ tables_1 := mem1 81 rfl
theorem w82 : (Jvm.Cond.instanceMethod ({ cls := "CausalStable", name := "deliveredAt", desc := "(II)I" } : Jvm.MethodName)) ∈ tables_1 := mem1 82 rfl
theorem w83 : (Jvm.Cond.selects "CausalStable" ({ cls := "CausalStable", name := "deliveredAt", desc := "(II)I" } : Jvm.MethodName) ({ cls := "CausalStable", name := "deliveredAt", desc := "(II)I" } : Jvm.MethodName)) ∈ tables_1 := mem1 83 rfl
theorem w85 : (Jvm.Cond.methodLink "CausalStableOwnLaw" (65 : Nat) ({ cls := "CausalStableOwnLaw", name := "countBefore", desc := "(LCausalStable;III)I" } : Jvm.MethodName)) ∈ tables_1 := mem1 85 rfl
theorem w86 : (Jvm.Cond.static ({ cls := "CausalStableOwnLaw", name := "countBefore", desc := "(LCausalStable;III)I" } : Jvm.MethodName)) ∈ tables_1 := mem1 86 rfl
theorem w88 : (Jvm.Cond.methodLink "CausalStableOwnLaw" (69 : Nat) ({ cls := "CausalStable", name := "stamp", desc := "(III)I" } : Jvm.MethodName)) ∈ tables_1 := mem1 88 rfl
theorem w89 : (Jvm.Cond.declares ({ cls := "CausalStable", name := "stamp", desc := "(III)I" } : Jvm.MethodName)) ∈ tables_1 := mem1 89 rfl
theorem w90 : (Jvm.Cond.instanceMethod ({ cls := "CausalStable", name := "stamp", desc := "(III)I" } : Jvm.MethodName)) ∈ tables_1 := mem1 90 rfl
theorem w91 : (Jvm.Cond.selects "CausalStable" ({ cls := "CausalStable", name := "stamp", desc := "(III)I" } : Jvm.MethodName) ({ cls := "CausalStable", name := "stamp", desc := "(III)I" } : Jvm.MethodName)) ∈ tables_1 := mem1 91 rfl
theorem w93 : (Jvm.Cond.methodLink "CausalStable" (52 : Nat) ({ cls := "CausalStable", name := "exists", desc := "(II)Z" } : Jvm.MethodName)) ∈ tables_1 := mem1 93 rfl
theorem w94 : (Jvm.Cond.instanceMethod ({ cls := "CausalStable", name := "exists", desc := "(II)Z" } : Jvm.MethodName)) ∈ tables_1 := mem1 94 rfl
theorem w95 : (Jvm.Cond.privateMethod ({ cls := "CausalStable", name := "exists", desc := "(II)Z" } : Jvm.MethodName)) ∈ tables_1 := mem1 95 rfl
theorem w97 : (Jvm.Cond.methodLink "CausalStableOwnLaw" (59 : Nat) ({ cls := "CausalStable", name := "state", desc := "(III)I" } : Jvm.MethodName)) ∈ tables_1 := mem1 97 rfl
theorem w98 : (Jvm.Cond.declares ({ cls := "CausalStable", name := "state", desc := "(III)I" } : Jvm.MethodName)) ∈ tables_1 := mem1 98 rfl
theorem w99 : (Jvm.Cond.instanceMethod ({ cls := "CausalStable", name := "state", desc := "(III)I" } : Jvm.MethodName)) ∈ tables_1 := mem1 99 rfl
theorem w100 : (Jvm.Cond.selects "CausalStable" ({ cls := "CausalStable", name := "state", desc := "(III)I" } : Jvm.MethodName) ({ cls := "CausalStable", name := "state", desc := "(III)I" } : Jvm.MethodName)) ∈ tables_1 := mem1 100 rfl
theorem w102 : (Jvm.Cond.methodLink "CausalStableOwnLaw" (72 : Nat) ({ cls := "CausalStable", name := "isCrashed", desc := "(I)Z" } : Jvm.MethodName)) ∈ tables_1 := mem1 102 rfl
theorem w103 : (Jvm.Cond.declares ({ cls := "CausalStable", name := "isCrashed", desc := "(I)Z" } : Jvm.MethodName)) ∈ tables_1 := mem1 103 rfl
theorem w104 : (Jvm.Cond.instanceMethod ({ cls := "CausalStable", name := "isCrashed", desc := "(I)Z" } : Jvm.MethodName)) ∈ tables_1 := mem1 104 rfl
theorem w105 : (Jvm.Cond.selects "CausalStable" ({ cls := "CausalStable", name := "isCrashed", desc := "(I)Z" } : Jvm.MethodName) ({ cls := "CausalStable", name := "isCrashed", desc := "(I)Z" } : Jvm.MethodName)) ∈ tables_1 := mem1 105 rfl
theorem w107 : (Jvm.Cond.methodLink "CausalStableOwnLaw" (76 : Nat) ({ cls := "CausalStableOwnLaw", name := "has", desc := "(LCausalStable;III)Z" } : Jvm.MethodName)) ∈ tables_1 := mem1 107 rfl
theorem w108 : (Jvm.Cond.static ({ cls := "CausalStableOwnLaw", name := "has", desc := "(LCausalStable;III)Z" } : Jvm.MethodName)) ∈ tables_1 := mem1 108 rfl
theorem w110 : (Jvm.Cond.methodLink "CausalStableOwnLaw" (29 : Nat) ({ cls := "CausalStable", name := "copies", desc := "(III)I" } : Jvm.MethodName)) ∈ tables_1 := mem1 110 rfl
theorem w111 : (Jvm.Cond.declares ({ cls := "CausalStable", name := "copies", desc := "(III)I" } : Jvm.MethodName)) ∈ tables_1 := mem1 111 rfl
theorem w112 : (Jvm.Cond.instanceMethod ({ cls := "CausalStable", name := "copies", desc := "(III)I" } : Jvm.MethodName)) ∈ tables_1 := mem1 112 rfl
theorem w113 : (Jvm.Cond.selects "CausalStable" ({ cls := "CausalStable", name := "copies", desc := "(III)I" } : Jvm.MethodName) ({ cls := "CausalStable", name := "copies", desc := "(III)I" } : Jvm.MethodName)) ∈ tables_1 := mem1 113 rfl
theorem w115 : (Jvm.Cond.methodLink "CausalStable" (72 : Nat) ({ cls := "CausalStable", name := "copyIndex", desc := "(III)I" } : Jvm.MethodName)) ∈ tables_1 := mem1 115 rfl
theorem w116 : (Jvm.Cond.instanceMethod ({ cls := "CausalStable", name := "copyIndex", desc := "(III)I" } : Jvm.MethodName)) ∈ tables_1 := mem1 116 rfl
theorem w117 : (Jvm.Cond.privateMethod ({ cls := "CausalStable", name := "copyIndex", desc := "(III)I" } : Jvm.MethodName)) ∈ tables_1 := mem1 117 rfl
theorem w119 : (Jvm.Cond.methodLink "CausalStableOwnLaw" (33 : Nat) ({ cls := "CausalStable", name := "receive", desc := "(III)I" } : Jvm.MethodName)) ∈ tables_1 := mem1 119 rfl
theorem w120 : (Jvm.Cond.declares ({ cls := "CausalStable", name := "receive", desc := "(III)I" } : Jvm.MethodName)) ∈ tables_1 := mem1 120 rfl
theorem w121 : (Jvm.Cond.instanceMethod ({ cls := "CausalStable", name := "receive", desc := "(III)I" } : Jvm.MethodName)) ∈ tables_1 := mem1 121 rfl
theorem w122 : (Jvm.Cond.selects "CausalStable" ({ cls := "CausalStable", name := "receive", desc := "(III)I" } : Jvm.MethodName) ({ cls := "CausalStable", name := "receive", desc := "(III)I" } : Jvm.MethodName)) ∈ tables_1 := mem1 122 rfl
theorem w124 : (Jvm.Cond.methodLink "CausalStable" (75 : Nat) ({ cls := "CausalStable", name := "cascade", desc := "(I)I" } : Jvm.MethodName)) ∈ tables_1 := mem1 124 rfl
theorem w125 : (Jvm.Cond.instanceMethod ({ cls := "CausalStable", name := "cascade", desc := "(I)I" } : Jvm.MethodName)) ∈ tables_1 := mem1 125 rfl
theorem w126 : (Jvm.Cond.privateMethod ({ cls := "CausalStable", name := "cascade", desc := "(I)I" } : Jvm.MethodName)) ∈ tables_1 := mem1 126 rfl
theorem w128 : (Jvm.Cond.methodLink "CausalStable" (60 : Nat) ({ cls := "CausalStable", name := "isDeliverable", desc := "(III)Z" } : Jvm.MethodName)) ∈ tables_1 := mem1 128 rfl
theorem w129 : (Jvm.Cond.instanceMethod ({ cls := "CausalStable", name := "isDeliverable", desc := "(III)Z" } : Jvm.MethodName)) ∈ tables_1 := mem1 129 rfl
theorem w130 : (Jvm.Cond.privateMethod ({ cls := "CausalStable", name := "isDeliverable", desc := "(III)Z" } : Jvm.MethodName)) ∈ tables_1 := mem1 130 rfl
theorem w132 : (Jvm.Cond.methodLink "CausalStableOwnLaw" (39 : Nat) ({ cls := "CausalStable", name := "drop", desc := "(III)I" } : Jvm.MethodName)) ∈ tables_1 := mem1 132 rfl
theorem w133 : (Jvm.Cond.declares ({ cls := "CausalStable", name := "drop", desc := "(III)I" } : Jvm.MethodName)) ∈ tables_1 := mem1 133 rfl
theorem w134 : (Jvm.Cond.instanceMethod ({ cls := "CausalStable", name := "drop", desc := "(III)I" } : Jvm.MethodName)) ∈ tables_1 := mem1 134 rfl
theorem w135 : (Jvm.Cond.selects "CausalStable" ({ cls := "CausalStable", name := "drop", desc := "(III)I" } : Jvm.MethodName) ({ cls := "CausalStable", name := "drop", desc := "(III)I" } : Jvm.MethodName)) ∈ tables_1 := mem1 135 rfl
theorem w137 : (Jvm.Cond.methodLink "CausalStableOwnLaw" (46 : Nat) ({ cls := "CausalStable", name := "gossip", desc := "(II)I" } : Jvm.MethodName)) ∈ tables_1 := mem1 137 rfl
theorem w138 : (Jvm.Cond.declares ({ cls := "CausalStable", name := "gossip", desc := "(II)I" } : Jvm.MethodName)) ∈ tables_1 := mem1 138 rfl
theorem w139 : (Jvm.Cond.instanceMethod ({ cls := "CausalStable", name := "gossip", desc := "(II)I" } : Jvm.MethodName)) ∈ tables_1 := mem1 139 rfl
theorem w140 : (Jvm.Cond.selects "CausalStable" ({ cls := "CausalStable", name := "gossip", desc := "(II)I" } : Jvm.MethodName) ({ cls := "CausalStable", name := "gossip", desc := "(II)I" } : Jvm.MethodName)) ∈ tables_1 := mem1 140 rfl
theorem w142 : (Jvm.Cond.methodLink "CausalStableOwnLaw" (36 : Nat) ({ cls := "CausalStable", name := "duplicate", desc := "(III)I" } : Jvm.MethodName)) ∈ tables_1 := mem1 142 rfl
theorem w143 : (Jvm.Cond.declares ({ cls := "CausalStable", name := "duplicate", desc := "(III)I" } : Jvm.MethodName)) ∈ tables_1 := mem1 143 rfl
theorem w144 : (Jvm.Cond.instanceMethod ({ cls := "CausalStable", name := "duplicate", desc := "(III)I" } : Jvm.MethodName)) ∈ tables_1 := mem1 144 rfl
theorem w145 : (Jvm.Cond.selects "CausalStable" ({ cls := "CausalStable", name := "duplicate", desc := "(III)I" } : Jvm.MethodName) ({ cls := "CausalStable", name := "duplicate", desc := "(III)I" } : Jvm.MethodName)) ∈ tables_1 := mem1 145 rfl
theorem w147 : (Jvm.Cond.methodLink "CausalStableOwnLaw" (42 : Nat) ({ cls := "CausalStable", name := "retransmit", desc := "(IIII)I" } : Jvm.MethodName)) ∈ tables_1 := mem1 147 rfl
theorem w148 : (Jvm.Cond.declares ({ cls := "CausalStable", name := "retransmit", desc := "(IIII)I" } : Jvm.MethodName)) ∈ tables_1 := mem1 148 rfl
theorem w149 : (Jvm.Cond.instanceMethod ({ cls := "CausalStable", name := "retransmit", desc := "(IIII)I" } : Jvm.MethodName)) ∈ tables_1 := mem1 149 rfl
theorem w150 : (Jvm.Cond.selects "CausalStable" ({ cls := "CausalStable", name := "retransmit", desc := "(IIII)I" } : Jvm.MethodName) ({ cls := "CausalStable", name := "retransmit", desc := "(IIII)I" } : Jvm.MethodName)) ∈ tables_1 := mem1 150 rfl
theorem w152 : (Jvm.Cond.methodLink "CausalStableOwnLaw" (50 : Nat) ({ cls := "CausalStable", name := "prune", desc := "(I)I" } : Jvm.MethodName)) ∈ tables_1 := mem1 152 rfl
theorem w153 : (Jvm.Cond.declares ({ cls := "CausalStable", name := "prune", desc := "(I)I" } : Jvm.MethodName)) ∈ tables_1 := mem1 153 rfl
theorem w154 : (Jvm.Cond.instanceMethod ({ cls := "CausalStable", name := "prune", desc := "(I)I" } : Jvm.MethodName)) ∈ tables_1 := mem1 154 rfl
theorem w155 : (Jvm.Cond.selects "CausalStable" ({ cls := "CausalStable", name := "prune", desc := "(I)I" } : Jvm.MethodName) ({ cls := "CausalStable", name := "prune", desc := "(I)I" } : Jvm.MethodName)) ∈ tables_1 := mem1 155 rfl
theorem w157 : (Jvm.Cond.methodLink "CausalStable" (79 : Nat) ({ cls := "CausalStable", name := "isStable", desc := "(III)Z" } : Jvm.MethodName)) ∈ tables_1 := mem1 157 rfl
theorem w158 : (Jvm.Cond.instanceMethod ({ cls := "CausalStable", name := "isStable", desc := "(III)Z" } : Jvm.MethodName)) ∈ tables_1 := mem1 158 rfl
theorem w159 : (Jvm.Cond.privateMethod ({ cls := "CausalStable", name := "isStable", desc := "(III)Z" } : Jvm.MethodName)) ∈ tables_1 := mem1 159 rfl
theorem w161 : (Jvm.Cond.methodLink "CausalStableOwnLaw" (53 : Nat) ({ cls := "CausalStable", name := "crash", desc := "(I)I" } : Jvm.MethodName)) ∈ tables_1 := mem1 161 rfl
theorem w162 : (Jvm.Cond.declares ({ cls := "CausalStable", name := "crash", desc := "(I)I" } : Jvm.MethodName)) ∈ tables_1 := mem1 162 rfl
theorem w163 : (Jvm.Cond.instanceMethod ({ cls := "CausalStable", name := "crash", desc := "(I)I" } : Jvm.MethodName)) ∈ tables_1 := mem1 163 rfl
theorem w164 : (Jvm.Cond.selects "CausalStable" ({ cls := "CausalStable", name := "crash", desc := "(I)I" } : Jvm.MethodName) ({ cls := "CausalStable", name := "crash", desc := "(I)I" } : Jvm.MethodName)) ∈ tables_1 := mem1 164 rfl
theorem w166 : (Jvm.Cond.methodLink "CausalStable" (82 : Nat) ({ cls := "CausalStable", name := "othersAllCrashed", desc := "(I)Z" } : Jvm.MethodName)) ∈ tables_1 := mem1 166 rfl
theorem w167 : (Jvm.Cond.instanceMethod ({ cls := "CausalStable", name := "othersAllCrashed", desc := "(I)Z" } : Jvm.MethodName)) ∈ tables_1 := mem1 167 rfl
theorem w168 : (Jvm.Cond.privateMethod ({ cls := "CausalStable", name := "othersAllCrashed", desc := "(I)Z" } : Jvm.MethodName)) ∈ tables_1 := mem1 168 rfl
theorem fS_0 : K.2.1[0]? = some ("n", "I") := rfl
theorem fS_1 : K.2.1[1]? = some ("cap", "I") := rfl
theorem fA_0 : K.2.2[0]? = some ("sentCount", .int, (8 : Int32)) := rfl
theorem fA_1 : K.2.2[1]? = some ("crashedFlag", .boolean, (8 : Int32)) := rfl
theorem fA_2 : K.2.2[2]? = some ("del", .int, (64 : Int32)) := rfl
theorem fA_3 : K.2.2[3]? = some ("msgState", .int, (512 : Int32)) := rfl
theorem fA_4 : K.2.2[4]? = some ("stampArr", .int, (512 : Int32)) := rfl
theorem fA_5 : K.2.2[5]? = some ("copyArr", .int, (512 : Int32)) := rfl
theorem fA_6 : K.2.2[6]? = some ("known", .int, (512 : Int32)) := rfl
theorem fA_7 : K.2.2[7]? = some ("list", .int, (512 : Int32)) := rfl
theorem fA_8 : K.2.2[8]? = some ("listLen", .int, (8 : Int32)) := rfl
theorem cb_m7 : (Int8.ofInt (-7)).toInt32 = (-7 : Int32) := by decide
theorem cb_m6 : (Int8.ofInt (-6)).toInt32 = (-6 : Int32) := by decide
theorem cb_m5 : (Int8.ofInt (-5)).toInt32 = (-5 : Int32) := by decide
theorem cb_m4 : (Int8.ofInt (-4)).toInt32 = (-4 : Int32) := by decide
theorem cb_m3 : (Int8.ofInt (-3)).toInt32 = (-3 : Int32) := by decide
theorem cb_m2 : (Int8.ofInt (-2)).toInt32 = (-2 : Int32) := by decide
theorem cb_7 : (Int8.ofInt 7).toInt32 = (7 : Int32) := by decide
theorem cb_8 : (Int8.ofInt 8).toInt32 = (8 : Int32) := by decide
theorem cb_9 : (Int8.ofInt 9).toInt32 = (9 : Int32) := by decide
theorem cb_12 : (Int8.ofInt 12).toInt32 = (12 : Int32) := by decide
theorem cb_14 : (Int8.ofInt 14).toInt32 = (14 : Int32) := by decide
theorem cb_15 : (Int8.ofInt 15).toInt32 = (15 : Int32) := by decide
theorem cb_16 : (Int8.ofInt 16).toInt32 = (16 : Int32) := by decide
theorem cb_64 : (Int8.ofInt 64).toInt32 = (64 : Int32) := by decide
theorem cb_65 : (Int8.ofInt 65).toInt32 = (65 : Int32) := by decide
theorem ci_m1 : Int32.ofInt (-1) = (-1 : Int32) := by decide
theorem ci_0 : Int32.ofInt 0 = (0 : Int32) := by decide
theorem ci_1 : Int32.ofInt 1 = (1 : Int32) := by decide
theorem ci_2 : Int32.ofInt 2 = (2 : Int32) := by decide
theorem ci_3 : Int32.ofInt 3 = (3 : Int32) := by decide
theorem ci_4 : Int32.ofInt 4 = (4 : Int32) := by decide
theorem cs_512 : (Int16.ofInt 512).toInt32 = (512 : Int32) := by decide
theorem cs_1023 : (Int16.ofInt 1023).toInt32 = (1023 : Int32) := by decide
def B1 : Bdy := ((⟨"CausalStableOwnLaw", "cell", "([II)I"⟩ : MethodName), method_2_code, 2, (some .int), ({ frames := 0, cells := 0, slots := 0, locals := 0 } : Room))
theorem d1_0 : DAt B1 0 (.iload_n 1) 1 1 := ⟨by decide +kernel, rfl⟩
theorem d1_1 : DAt B1 1 (.aload_n 0) 1 2 := ⟨by decide +kernel, rfl⟩
theorem d1_2 : DAt B1 2 (.arraylength) 1 3 := ⟨by decide +kernel, rfl⟩
theorem d1_3 : DAt B1 3 (.if_icmp .ge 9) 3 6 := ⟨by decide +kernel, rfl⟩
theorem d1_6 : DAt B1 6 (.aload_n 0) 1 7 := ⟨by decide +kernel, rfl⟩
theorem d1_7 : DAt B1 7 (.iload_n 1) 1 8 := ⟨by decide +kernel, rfl⟩
theorem d1_8 : DAt B1 8 (.iaload) 1 9 := ⟨by decide +kernel, rfl⟩
theorem d1_9 : DAt B1 9 (.goto 4) 3 12 := ⟨by decide +kernel, rfl⟩
theorem d1_12 : DAt B1 12 (.iconst 0) 1 13 := ⟨by decide +kernel, rfl⟩
theorem d1_13 : DAt B1 13 (.ireturn) 1 14 := ⟨by decide +kernel, rfl⟩
def B2 : Bdy := ((⟨"CausalStable", "<init>", "(II)V"⟩ : MethodName), prog_1_method_1_code, 5, none, ({ frames := 1, cells := 9, slots := 2648, locals := 12 } : Room))
theorem d2_0 : DAt B2 0 (.aload_n 0) 1 1 := ⟨by decide +kernel, rfl⟩
theorem d2_1 : DAt B2 1 (.invokespecial 1) 3 4 := ⟨by decide +kernel, rfl⟩
theorem d2_4 : DAt B2 4 (.aload_n 0) 1 5 := ⟨by decide +kernel, rfl⟩
theorem d2_5 : DAt B2 5 (.bipush 8) 2 7 := ⟨by decide +kernel, rfl⟩
theorem d2_7 : DAt B2 7 (.newarray .int) 2 9 := ⟨by decide +kernel, rfl⟩
theorem d2_9 : DAt B2 9 (.putfield 7) 3 12 := ⟨by decide +kernel, rfl⟩
theorem d2_12 : DAt B2 12 (.aload_n 0) 1 13 := ⟨by decide +kernel, rfl⟩
theorem d2_13 : DAt B2 13 (.bipush 8) 2 15 := ⟨by decide +kernel, rfl⟩
theorem d2_15 : DAt B2 15 (.newarray .boolean) 2 17 := ⟨by decide +kernel, rfl⟩
theorem d2_17 : DAt B2 17 (.putfield 13) 3 20 := ⟨by decide +kernel, rfl⟩
theorem d2_20 : DAt B2 20 (.aload_n 0) 1 21 := ⟨by decide +kernel, rfl⟩
theorem d2_21 : DAt B2 21 (.bipush 64) 2 23 := ⟨by decide +kernel, rfl⟩
theorem d2_23 : DAt B2 23 (.newarray .int) 2 25 := ⟨by decide +kernel, rfl⟩
theorem d2_25 : DAt B2 25 (.putfield 17) 3 28 := ⟨by decide +kernel, rfl⟩
theorem d2_28 : DAt B2 28 (.aload_n 0) 1 29 := ⟨by decide +kernel, rfl⟩
theorem d2_29 : DAt B2 29 (.sipush 512) 3 32 := ⟨by decide +kernel, rfl⟩
theorem d2_32 : DAt B2 32 (.newarray .int) 2 34 := ⟨by decide +kernel, rfl⟩
theorem d2_34 : DAt B2 34 (.putfield 20) 3 37 := ⟨by decide +kernel, rfl⟩
theorem d2_37 : DAt B2 37 (.aload_n 0) 1 38 := ⟨by decide +kernel, rfl⟩
theorem d2_38 : DAt B2 38 (.sipush 512) 3 41 := ⟨by decide +kernel, rfl⟩
theorem d2_41 : DAt B2 41 (.newarray .int) 2 43 := ⟨by decide +kernel, rfl⟩
theorem d2_43 : DAt B2 43 (.putfield 23) 3 46 := ⟨by decide +kernel, rfl⟩
theorem d2_46 : DAt B2 46 (.aload_n 0) 1 47 := ⟨by decide +kernel, rfl⟩
theorem d2_47 : DAt B2 47 (.sipush 512) 3 50 := ⟨by decide +kernel, rfl⟩
theorem d2_50 : DAt B2 50 (.newarray .int) 2 52 := ⟨by decide +kernel, rfl⟩
theorem d2_52 : DAt B2 52 (.putfield 26) 3 55 := ⟨by decide +kernel, rfl⟩
theorem d2_55 : DAt B2 55 (.aload_n 0) 1 56 := ⟨by decide +kernel, rfl⟩
theorem d2_56 : DAt B2 56 (.sipush 512) 3 59 := ⟨by decide +kernel, rfl⟩
theorem d2_59 : DAt B2 59 (.newarray .int) 2 61 := ⟨by decide +kernel, rfl⟩
theorem d2_61 : DAt B2 61 (.putfield 29) 3 64 := ⟨by decide +kernel, rfl⟩
theorem d2_64 : DAt B2 64 (.aload_n 0) 1 65 := ⟨by decide +kernel, rfl⟩
theorem d2_65 : DAt B2 65 (.sipush 512) 3 68 := ⟨by decide +kernel, rfl⟩
theorem d2_68 : DAt B2 68 (.newarray .int) 2 70 := ⟨by decide +kernel, rfl⟩
theorem d2_70 : DAt B2 70 (.putfield 32) 3 73 := ⟨by decide +kernel, rfl⟩
theorem d2_73 : DAt B2 73 (.aload_n 0) 1 74 := ⟨by decide +kernel, rfl⟩
theorem d2_74 : DAt B2 74 (.bipush 8) 2 76 := ⟨by decide +kernel, rfl⟩
theorem d2_76 : DAt B2 76 (.newarray .int) 2 78 := ⟨by decide +kernel, rfl⟩
theorem d2_78 : DAt B2 78 (.putfield 35) 3 81 := ⟨by decide +kernel, rfl⟩
theorem d2_81 : DAt B2 81 (.iload_n 1) 1 82 := ⟨by decide +kernel, rfl⟩
theorem d2_82 : DAt B2 82 (.istore_n 3) 1 83 := ⟨by decide +kernel, rfl⟩
theorem d2_83 : DAt B2 83 (.iload_n 3) 1 84 := ⟨by decide +kernel, rfl⟩
theorem d2_84 : DAt B2 84 (.iconst 2) 1 85 := ⟨by decide +kernel, rfl⟩
theorem d2_85 : DAt B2 85 (.if_icmp .ge 5) 3 88 := ⟨by decide +kernel, rfl⟩
theorem d2_88 : DAt B2 88 (.iconst 2) 1 89 := ⟨by decide +kernel, rfl⟩
theorem d2_89 : DAt B2 89 (.istore_n 3) 1 90 := ⟨by decide +kernel, rfl⟩
theorem d2_90 : DAt B2 90 (.iload_n 3) 1 91 := ⟨by decide +kernel, rfl⟩
theorem d2_91 : DAt B2 91 (.bipush 8) 2 93 := ⟨by decide +kernel, rfl⟩
theorem d2_93 : DAt B2 93 (.if_icmp .le 6) 3 96 := ⟨by decide +kernel, rfl⟩
theorem d2_96 : DAt B2 96 (.bipush 8) 2 98 := ⟨by decide +kernel, rfl⟩
theorem d2_98 : DAt B2 98 (.istore_n 3) 1 99 := ⟨by decide +kernel, rfl⟩
theorem d2_99 : DAt B2 99 (.aload_n 0) 1 100 := ⟨by decide +kernel, rfl⟩
theorem d2_100 : DAt B2 100 (.iload_n 3) 1 101 := ⟨by decide +kernel, rfl⟩
theorem d2_101 : DAt B2 101 (.putfield 38) 3 104 := ⟨by decide +kernel, rfl⟩
theorem d2_104 : DAt B2 104 (.iload_n 2) 1 105 := ⟨by decide +kernel, rfl⟩
theorem d2_105 : DAt B2 105 (.istore 4) 2 107 := ⟨by decide +kernel, rfl⟩
theorem d2_107 : DAt B2 107 (.iload 4) 2 109 := ⟨by decide +kernel, rfl⟩
theorem d2_109 : DAt B2 109 (.iconst 1) 1 110 := ⟨by decide +kernel, rfl⟩
theorem d2_110 : DAt B2 110 (.if_icmp .ge 6) 3 113 := ⟨by decide +kernel, rfl⟩
theorem d2_113 : DAt B2 113 (.iconst 1) 1 114 := ⟨by decide +kernel, rfl⟩
theorem d2_114 : DAt B2 114 (.istore 4) 2 116 := ⟨by decide +kernel, rfl⟩
theorem d2_116 : DAt B2 116 (.iload 4) 2 118 := ⟨by decide +kernel, rfl⟩
theorem d2_118 : DAt B2 118 (.bipush 8) 2 120 := ⟨by decide +kernel, rfl⟩
theorem d2_120 : DAt B2 120 (.if_icmp .le 7) 3 123 := ⟨by decide +kernel, rfl⟩
theorem d2_123 : DAt B2 123 (.bipush 8) 2 125 := ⟨by decide +kernel, rfl⟩
theorem d2_125 : DAt B2 125 (.istore 4) 2 127 := ⟨by decide +kernel, rfl⟩
theorem d2_127 : DAt B2 127 (.aload_n 0) 1 128 := ⟨by decide +kernel, rfl⟩
theorem d2_128 : DAt B2 128 (.iload 4) 2 130 := ⟨by decide +kernel, rfl⟩
theorem d2_130 : DAt B2 130 (.putfield 42) 3 133 := ⟨by decide +kernel, rfl⟩
theorem d2_133 : DAt B2 133 (.return_) 1 134 := ⟨by decide +kernel, rfl⟩
def B5 : Bdy := ((⟨"CausalStable", "validProc", "(I)Z"⟩ : MethodName), prog_1_method_2_code, 2, (some .boolean), ({ frames := 0, cells := 0, slots := 0, locals := 0 } : Room))
theorem d5_0 : DAt B5 0 (.iload_n 1) 1 1 := ⟨by decide +kernel, rfl⟩
theorem d5_1 : DAt B5 1 (.ifCond .lt 15) 3 4 := ⟨by decide +kernel, rfl⟩
theorem d5_4 : DAt B5 4 (.iload_n 1) 1 5 := ⟨by decide +kernel, rfl⟩
theorem d5_5 : DAt B5 5 (.aload_n 0) 1 6 := ⟨by decide +kernel, rfl⟩
theorem d5_6 : DAt B5 6 (.getfield 38) 3 9 := ⟨by decide +kernel, rfl⟩
theorem d5_9 : DAt B5 9 (.if_icmp .ge 7) 3 12 := ⟨by decide +kernel, rfl⟩
theorem d5_12 : DAt B5 12 (.iconst 1) 1 13 := ⟨by decide +kernel, rfl⟩
theorem d5_13 : DAt B5 13 (.goto 4) 3 16 := ⟨by decide +kernel, rfl⟩
theorem d5_16 : DAt B5 16 (.iconst 0) 1 17 := ⟨by decide +kernel, rfl⟩
theorem d5_17 : DAt B5 17 (.ireturn) 1 18 := ⟨by decide +kernel, rfl⟩
def B4 : Bdy := ((⟨"CausalStable", "delivered", "(II)I"⟩ : MethodName), prog_1_method_25_code, 3, (some .int), ({ frames := 1, cells := 0, slots := 0, locals := 13 } : Room))
theorem d4_0 : DAt B4 0 (.aload_n 0) 1 1 := ⟨by decide +kernel, rfl⟩
theorem d4_1 : DAt B4 1 (.iload_n 1) 1 2 := ⟨by decide +kernel, rfl⟩
theorem d4_2 : DAt B4 2 (.invokevirtual 68) 3 5 := ⟨by decide +kernel, rfl⟩
theorem d4_5 : DAt B4 5 (.ifCond .eq 11) 3 8 := ⟨by decide +kernel, rfl⟩
theorem d4_8 : DAt B4 8 (.aload_n 0) 1 9 := ⟨by decide +kernel, rfl⟩
theorem d4_9 : DAt B4 9 (.iload_n 2) 1 10 := ⟨by decide +kernel, rfl⟩
theorem d4_10 : DAt B4 10 (.invokevirtual 68) 3 13 := ⟨by decide +kernel, rfl⟩
theorem d4_13 : DAt B4 13 (.ifCond .ne 5) 3 16 := ⟨by decide +kernel, rfl⟩
theorem d4_16 : DAt B4 16 (.iconst (-1)) 1 17 := ⟨by decide +kernel, rfl⟩
theorem d4_17 : DAt B4 17 (.ireturn) 1 18 := ⟨by decide +kernel, rfl⟩
theorem d4_18 : DAt B4 18 (.aload_n 0) 1 19 := ⟨by decide +kernel, rfl⟩
theorem d4_19 : DAt B4 19 (.getfield 17) 3 22 := ⟨by decide +kernel, rfl⟩
theorem d4_22 : DAt B4 22 (.iload_n 1) 1 23 := ⟨by decide +kernel, rfl⟩
theorem d4_23 : DAt B4 23 (.bipush 8) 2 25 := ⟨by decide +kernel, rfl⟩
theorem d4_25 : DAt B4 25 (.imul) 1 26 := ⟨by decide +kernel, rfl⟩
theorem d4_26 : DAt B4 26 (.iload_n 2) 1 27 := ⟨by decide +kernel, rfl⟩
theorem d4_27 : DAt B4 27 (.iadd) 1 28 := ⟨by decide +kernel, rfl⟩
theorem d4_28 : DAt B4 28 (.iaload) 1 29 := ⟨by decide +kernel, rfl⟩
theorem d4_29 : DAt B4 29 (.ireturn) 1 30 := ⟨by decide +kernel, rfl⟩
def B13 : Bdy := ((⟨"CausalStable", "deliveredAt", "(II)I"⟩ : MethodName), prog_1_method_26_code, 3, (some .int), ({ frames := 1, cells := 0, slots := 0, locals := 13 } : Room))
theorem d13_0 : DAt B13 0 (.aload_n 0) 1 1 := ⟨by decide +kernel, rfl⟩
theorem d13_1 : DAt B13 1 (.iload_n 1) 1 2 := ⟨by decide +kernel, rfl⟩
theorem d13_2 : DAt B13 2 (.invokevirtual 68) 3 5 := ⟨by decide +kernel, rfl⟩
theorem d13_5 : DAt B13 5 (.ifCond .ne 5) 3 8 := ⟨by decide +kernel, rfl⟩
theorem d13_8 : DAt B13 8 (.iconst (-1)) 1 9 := ⟨by decide +kernel, rfl⟩
theorem d13_9 : DAt B13 9 (.ireturn) 1 10 := ⟨by decide +kernel, rfl⟩
theorem d13_10 : DAt B13 10 (.iload_n 2) 1 11 := ⟨by decide +kernel, rfl⟩
theorem d13_11 : DAt B13 11 (.ifCond .lt 19) 3 14 := ⟨by decide +kernel, rfl⟩
theorem d13_14 : DAt B13 14 (.iload_n 2) 1 15 := ⟨by decide +kernel, rfl⟩
theorem d13_15 : DAt B13 15 (.aload_n 0) 1 16 := ⟨by decide +kernel, rfl⟩
theorem d13_16 : DAt B13 16 (.getfield 35) 3 19 := ⟨by decide +kernel, rfl⟩
theorem d13_19 : DAt B13 19 (.iload_n 1) 1 20 := ⟨by decide +kernel, rfl⟩
theorem d13_20 : DAt B13 20 (.iaload) 1 21 := ⟨by decide +kernel, rfl⟩
theorem d13_21 : DAt B13 21 (.if_icmp .ge 9) 3 24 := ⟨by decide +kernel, rfl⟩
theorem d13_24 : DAt B13 24 (.iload_n 2) 1 25 := ⟨by decide +kernel, rfl⟩
theorem d13_25 : DAt B13 25 (.bipush 64) 2 27 := ⟨by decide +kernel, rfl⟩
theorem d13_27 : DAt B13 27 (.if_icmp .lt 5) 3 30 := ⟨by decide +kernel, rfl⟩
theorem d13_30 : DAt B13 30 (.iconst (-1)) 1 31 := ⟨by decide +kernel, rfl⟩
theorem d13_31 : DAt B13 31 (.ireturn) 1 32 := ⟨by decide +kernel, rfl⟩
theorem d13_32 : DAt B13 32 (.aload_n 0) 1 33 := ⟨by decide +kernel, rfl⟩
theorem d13_33 : DAt B13 33 (.getfield 32) 3 36 := ⟨by decide +kernel, rfl⟩
theorem d13_36 : DAt B13 36 (.iload_n 1) 1 37 := ⟨by decide +kernel, rfl⟩
theorem d13_37 : DAt B13 37 (.bipush 64) 2 39 := ⟨by decide +kernel, rfl⟩
theorem d13_39 : DAt B13 39 (.imul) 1 40 := ⟨by decide +kernel, rfl⟩
theorem d13_40 : DAt B13 40 (.iload_n 2) 1 41 := ⟨by decide +kernel, rfl⟩
theorem d13_41 : DAt B13 41 (.iadd) 1 42 := ⟨by decide +kernel, rfl⟩
theorem d13_42 : DAt B13 42 (.iaload) 1 43 := ⟨by decide +kernel, rfl⟩
theorem d13_43 : DAt B13 43 (.ireturn) 1 44 := ⟨by decide +kernel, rfl⟩
def B14 : Bdy := ((⟨"CausalStableOwnLaw", "countBefore", "(LCausalStable;III)I"⟩ : MethodName), method_4_code, 6, (some .int), ({ frames := 2, cells := 0, slots := 0, locals := 27 } : Room))
theorem d14_0 : DAt B14 0 (.iconst 0) 1 1 := ⟨by decide +kernel, rfl⟩
theorem d14_1 : DAt B14 1 (.istore 4) 2 3 := ⟨by decide +kernel, rfl⟩
theorem d14_3 : DAt B14 3 (.iconst 0) 1 4 := ⟨by decide +kernel, rfl⟩
theorem d14_4 : DAt B14 4 (.istore 5) 2 6 := ⟨by decide +kernel, rfl⟩
theorem d14_6 : DAt B14 6 (.iload 5) 2 8 := ⟨by decide +kernel, rfl⟩
theorem d14_8 : DAt B14 8 (.iload_n 2) 1 9 := ⟨by decide +kernel, rfl⟩
theorem d14_9 : DAt B14 9 (.if_icmp .ge 26) 3 12 := ⟨by decide +kernel, rfl⟩
theorem d14_12 : DAt B14 12 (.aload_n 0) 1 13 := ⟨by decide +kernel, rfl⟩
theorem d14_13 : DAt B14 13 (.iload_n 1) 1 14 := ⟨by decide +kernel, rfl⟩
theorem d14_14 : DAt B14 14 (.iload 5) 2 16 := ⟨by decide +kernel, rfl⟩
theorem d14_16 : DAt B14 16 (.invokevirtual 56) 3 19 := ⟨by decide +kernel, rfl⟩
theorem d14_19 : DAt B14 19 (.bipush 16) 2 21 := ⟨by decide +kernel, rfl⟩
theorem d14_21 : DAt B14 21 (.idiv) 1 22 := ⟨by decide +kernel, rfl⟩
theorem d14_22 : DAt B14 22 (.iload_n 3) 1 23 := ⟨by decide +kernel, rfl⟩
theorem d14_23 : DAt B14 23 (.if_icmp .ne 6) 3 26 := ⟨by decide +kernel, rfl⟩
theorem d14_26 : DAt B14 26 (.iinc 4 1) 3 29 := ⟨by decide +kernel, rfl⟩
theorem d14_29 : DAt B14 29 (.iinc 5 1) 3 32 := ⟨by decide +kernel, rfl⟩
theorem d14_32 : DAt B14 32 (.goto (-26)) 3 35 := ⟨by decide +kernel, rfl⟩
theorem d14_35 : DAt B14 35 (.iload 4) 2 37 := ⟨by decide +kernel, rfl⟩
theorem d14_37 : DAt B14 37 (.ireturn) 1 38 := ⟨by decide +kernel, rfl⟩
def B16 : Bdy := ((⟨"CausalStable", "exists", "(II)Z"⟩ : MethodName), prog_1_method_3_code, 3, (some .boolean), ({ frames := 0, cells := 0, slots := 0, locals := 0 } : Room))
theorem d16_0 : DAt B16 0 (.iload_n 1) 1 1 := ⟨by decide +kernel, rfl⟩
theorem d16_1 : DAt B16 1 (.ifCond .lt 30) 3 4 := ⟨by decide +kernel, rfl⟩
theorem d16_4 : DAt B16 4 (.iload_n 1) 1 5 := ⟨by decide +kernel, rfl⟩
theorem d16_5 : DAt B16 5 (.aload_n 0) 1 6 := ⟨by decide +kernel, rfl⟩
theorem d16_6 : DAt B16 6 (.getfield 38) 3 9 := ⟨by decide +kernel, rfl⟩
theorem d16_9 : DAt B16 9 (.if_icmp .ge 22) 3 12 := ⟨by decide +kernel, rfl⟩
theorem d16_12 : DAt B16 12 (.iload_n 2) 1 13 := ⟨by decide +kernel, rfl⟩
theorem d16_13 : DAt B16 13 (.iconst 1) 1 14 := ⟨by decide +kernel, rfl⟩
theorem d16_14 : DAt B16 14 (.if_icmp .lt 17) 3 17 := ⟨by decide +kernel, rfl⟩
theorem d16_17 : DAt B16 17 (.iload_n 2) 1 18 := ⟨by decide +kernel, rfl⟩
theorem d16_18 : DAt B16 18 (.aload_n 0) 1 19 := ⟨by decide +kernel, rfl⟩
theorem d16_19 : DAt B16 19 (.getfield 7) 3 22 := ⟨by decide +kernel, rfl⟩
theorem d16_22 : DAt B16 22 (.iload_n 1) 1 23 := ⟨by decide +kernel, rfl⟩
theorem d16_23 : DAt B16 23 (.iaload) 1 24 := ⟨by decide +kernel, rfl⟩
theorem d16_24 : DAt B16 24 (.if_icmp .gt 7) 3 27 := ⟨by decide +kernel, rfl⟩
theorem d16_27 : DAt B16 27 (.iconst 1) 1 28 := ⟨by decide +kernel, rfl⟩
theorem d16_28 : DAt B16 28 (.goto 4) 3 31 := ⟨by decide +kernel, rfl⟩
theorem d16_31 : DAt B16 31 (.iconst 0) 1 32 := ⟨by decide +kernel, rfl⟩
theorem d16_32 : DAt B16 32 (.ireturn) 1 33 := ⟨by decide +kernel, rfl⟩
def B10 : Bdy := ((⟨"CausalStable", "msgIndex", "(II)I"⟩ : MethodName), prog_1_method_4_code, 3, (some .int), ({ frames := 0, cells := 0, slots := 0, locals := 0 } : Room))
theorem d10_0 : DAt B10 0 (.iload_n 1) 1 1 := ⟨by decide +kernel, rfl⟩
theorem d10_1 : DAt B10 1 (.bipush 8) 2 3 := ⟨by decide +kernel, rfl⟩
theorem d10_3 : DAt B10 3 (.imul) 1 4 := ⟨by decide +kernel, rfl⟩
theorem d10_4 : DAt B10 4 (.iload_n 2) 1 5 := ⟨by decide +kernel, rfl⟩
theorem d10_5 : DAt B10 5 (.iadd) 1 6 := ⟨by decide +kernel, rfl⟩
theorem d10_6 : DAt B10 6 (.iconst 1) 1 7 := ⟨by decide +kernel, rfl⟩
theorem d10_7 : DAt B10 7 (.isub) 1 8 := ⟨by decide +kernel, rfl⟩
theorem d10_8 : DAt B10 8 (.ireturn) 1 9 := ⟨by decide +kernel, rfl⟩
def B15 : Bdy := ((⟨"CausalStable", "stamp", "(III)I"⟩ : MethodName), prog_1_method_22_code, 5, (some .int), ({ frames := 1, cells := 0, slots := 0, locals := 14 } : Room))
theorem d15_0 : DAt B15 0 (.aload_n 0) 1 1 := ⟨by decide +kernel, rfl⟩
theorem d15_1 : DAt B15 1 (.iload_n 1) 1 2 := ⟨by decide +kernel, rfl⟩
theorem d15_2 : DAt B15 2 (.iload_n 2) 1 3 := ⟨by decide +kernel, rfl⟩
theorem d15_3 : DAt B15 3 (.invokevirtual 52) 3 6 := ⟨by decide +kernel, rfl⟩
theorem d15_6 : DAt B15 6 (.ifCond .eq 11) 3 9 := ⟨by decide +kernel, rfl⟩
theorem d15_9 : DAt B15 9 (.aload_n 0) 1 10 := ⟨by decide +kernel, rfl⟩
theorem d15_10 : DAt B15 10 (.iload_n 3) 1 11 := ⟨by decide +kernel, rfl⟩
theorem d15_11 : DAt B15 11 (.invokevirtual 68) 3 14 := ⟨by decide +kernel, rfl⟩
theorem d15_14 : DAt B15 14 (.ifCond .ne 5) 3 17 := ⟨by decide +kernel, rfl⟩
theorem d15_17 : DAt B15 17 (.iconst (-1)) 1 18 := ⟨by decide +kernel, rfl⟩
theorem d15_18 : DAt B15 18 (.ireturn) 1 19 := ⟨by decide +kernel, rfl⟩
theorem d15_19 : DAt B15 19 (.aload_n 0) 1 20 := ⟨by decide +kernel, rfl⟩
theorem d15_20 : DAt B15 20 (.iload_n 1) 1 21 := ⟨by decide +kernel, rfl⟩
theorem d15_21 : DAt B15 21 (.iload_n 2) 1 22 := ⟨by decide +kernel, rfl⟩
theorem d15_22 : DAt B15 22 (.invokevirtual 56) 3 25 := ⟨by decide +kernel, rfl⟩
theorem d15_25 : DAt B15 25 (.istore 4) 2 27 := ⟨by decide +kernel, rfl⟩
theorem d15_27 : DAt B15 27 (.aload_n 0) 1 28 := ⟨by decide +kernel, rfl⟩
theorem d15_28 : DAt B15 28 (.getfield 23) 3 31 := ⟨by decide +kernel, rfl⟩
theorem d15_31 : DAt B15 31 (.iload 4) 2 33 := ⟨by decide +kernel, rfl⟩
theorem d15_33 : DAt B15 33 (.bipush 8) 2 35 := ⟨by decide +kernel, rfl⟩
theorem d15_35 : DAt B15 35 (.imul) 1 36 := ⟨by decide +kernel, rfl⟩
theorem d15_36 : DAt B15 36 (.iload_n 3) 1 37 := ⟨by decide +kernel, rfl⟩
theorem d15_37 : DAt B15 37 (.iadd) 1 38 := ⟨by decide +kernel, rfl⟩
theorem d15_38 : DAt B15 38 (.iaload) 1 39 := ⟨by decide +kernel, rfl⟩
theorem d15_39 : DAt B15 39 (.ireturn) 1 40 := ⟨by decide +kernel, rfl⟩
def B6 : Bdy := ((⟨"CausalStable", "sent", "(I)I"⟩ : MethodName), prog_1_method_21_code, 2, (some .int), ({ frames := 1, cells := 0, slots := 0, locals := 13 } : Room))
theorem d6_0 : DAt B6 0 (.aload_n 0) 1 1 := ⟨by decide +kernel, rfl⟩
theorem d6_1 : DAt B6 1 (.iload_n 1) 1 2 := ⟨by decide +kernel, rfl⟩
theorem d6_2 : DAt B6 2 (.invokevirtual 68) 3 5 := ⟨by decide +kernel, rfl⟩
theorem d6_5 : DAt B6 5 (.ifCond .ne 5) 3 8 := ⟨by decide +kernel, rfl⟩
theorem d6_8 : DAt B6 8 (.iconst (-1)) 1 9 := ⟨by decide +kernel, rfl⟩
theorem d6_9 : DAt B6 9 (.ireturn) 1 10 := ⟨by decide +kernel, rfl⟩
theorem d6_10 : DAt B6 10 (.aload_n 0) 1 11 := ⟨by decide +kernel, rfl⟩
theorem d6_11 : DAt B6 11 (.getfield 7) 3 14 := ⟨by decide +kernel, rfl⟩
theorem d6_14 : DAt B6 14 (.iload_n 1) 1 15 := ⟨by decide +kernel, rfl⟩
theorem d6_15 : DAt B6 15 (.iaload) 1 16 := ⟨by decide +kernel, rfl⟩
theorem d6_16 : DAt B6 16 (.ireturn) 1 17 := ⟨by decide +kernel, rfl⟩
def B12 : Bdy := ((⟨"CausalStable", "stateIndex", "(III)I"⟩ : MethodName), prog_1_method_5_code, 4, (some .int), ({ frames := 0, cells := 0, slots := 0, locals := 0 } : Room))
theorem d12_0 : DAt B12 0 (.iload_n 1) 1 1 := ⟨by decide +kernel, rfl⟩
theorem d12_1 : DAt B12 1 (.bipush 64) 2 3 := ⟨by decide +kernel, rfl⟩
theorem d12_3 : DAt B12 3 (.imul) 1 4 := ⟨by decide +kernel, rfl⟩
theorem d12_4 : DAt B12 4 (.iload_n 2) 1 5 := ⟨by decide +kernel, rfl⟩
theorem d12_5 : DAt B12 5 (.bipush 8) 2 7 := ⟨by decide +kernel, rfl⟩
theorem d12_7 : DAt B12 7 (.imul) 1 8 := ⟨by decide +kernel, rfl⟩
theorem d12_8 : DAt B12 8 (.iadd) 1 9 := ⟨by decide +kernel, rfl⟩
theorem d12_9 : DAt B12 9 (.iload_n 3) 1 10 := ⟨by decide +kernel, rfl⟩
theorem d12_10 : DAt B12 10 (.iadd) 1 11 := ⟨by decide +kernel, rfl⟩
theorem d12_11 : DAt B12 11 (.iconst 1) 1 12 := ⟨by decide +kernel, rfl⟩
theorem d12_12 : DAt B12 12 (.isub) 1 13 := ⟨by decide +kernel, rfl⟩
theorem d12_13 : DAt B12 13 (.ireturn) 1 14 := ⟨by decide +kernel, rfl⟩
def B17 : Bdy := ((⟨"CausalStable", "state", "(III)I"⟩ : MethodName), prog_1_method_24_code, 5, (some .int), ({ frames := 1, cells := 0, slots := 0, locals := 15 } : Room))
theorem d17_0 : DAt B17 0 (.aload_n 0) 1 1 := ⟨by decide +kernel, rfl⟩
theorem d17_1 : DAt B17 1 (.iload_n 1) 1 2 := ⟨by decide +kernel, rfl⟩
theorem d17_2 : DAt B17 2 (.invokevirtual 68) 3 5 := ⟨by decide +kernel, rfl⟩
theorem d17_5 : DAt B17 5 (.ifCond .eq 12) 3 8 := ⟨by decide +kernel, rfl⟩
theorem d17_8 : DAt B17 8 (.aload_n 0) 1 9 := ⟨by decide +kernel, rfl⟩
theorem d17_9 : DAt B17 9 (.iload_n 2) 1 10 := ⟨by decide +kernel, rfl⟩
theorem d17_10 : DAt B17 10 (.iload_n 3) 1 11 := ⟨by decide +kernel, rfl⟩
theorem d17_11 : DAt B17 11 (.invokevirtual 52) 3 14 := ⟨by decide +kernel, rfl⟩
theorem d17_14 : DAt B17 14 (.ifCond .ne 5) 3 17 := ⟨by decide +kernel, rfl⟩
theorem d17_17 : DAt B17 17 (.iconst (-1)) 1 18 := ⟨by decide +kernel, rfl⟩
theorem d17_18 : DAt B17 18 (.ireturn) 1 19 := ⟨by decide +kernel, rfl⟩
theorem d17_19 : DAt B17 19 (.aload_n 0) 1 20 := ⟨by decide +kernel, rfl⟩
theorem d17_20 : DAt B17 20 (.iload_n 1) 1 21 := ⟨by decide +kernel, rfl⟩
theorem d17_21 : DAt B17 21 (.iload_n 2) 1 22 := ⟨by decide +kernel, rfl⟩
theorem d17_22 : DAt B17 22 (.iload_n 3) 1 23 := ⟨by decide +kernel, rfl⟩
theorem d17_23 : DAt B17 23 (.invokevirtual 45) 3 26 := ⟨by decide +kernel, rfl⟩
theorem d17_26 : DAt B17 26 (.istore 4) 2 28 := ⟨by decide +kernel, rfl⟩
theorem d17_28 : DAt B17 28 (.aload_n 0) 1 29 := ⟨by decide +kernel, rfl⟩
theorem d17_29 : DAt B17 29 (.getfield 20) 3 32 := ⟨by decide +kernel, rfl⟩
theorem d17_32 : DAt B17 32 (.iload 4) 2 34 := ⟨by decide +kernel, rfl⟩
theorem d17_34 : DAt B17 34 (.iaload) 1 35 := ⟨by decide +kernel, rfl⟩
theorem d17_35 : DAt B17 35 (.ireturn) 1 36 := ⟨by decide +kernel, rfl⟩
def B18 : Bdy := ((⟨"CausalStable", "isCrashed", "(I)Z"⟩ : MethodName), prog_1_method_28_code, 2, (some .boolean), ({ frames := 1, cells := 0, slots := 0, locals := 13 } : Room))
theorem d18_0 : DAt B18 0 (.aload_n 0) 1 1 := ⟨by decide +kernel, rfl⟩
theorem d18_1 : DAt B18 1 (.iload_n 1) 1 2 := ⟨by decide +kernel, rfl⟩
theorem d18_2 : DAt B18 2 (.invokevirtual 68) 3 5 := ⟨by decide +kernel, rfl⟩
theorem d18_5 : DAt B18 5 (.ifCond .ne 5) 3 8 := ⟨by decide +kernel, rfl⟩
theorem d18_8 : DAt B18 8 (.iconst 0) 1 9 := ⟨by decide +kernel, rfl⟩
theorem d18_9 : DAt B18 9 (.ireturn) 1 10 := ⟨by decide +kernel, rfl⟩
theorem d18_10 : DAt B18 10 (.aload_n 0) 1 11 := ⟨by decide +kernel, rfl⟩
theorem d18_11 : DAt B18 11 (.getfield 13) 3 14 := ⟨by decide +kernel, rfl⟩
theorem d18_14 : DAt B18 14 (.iload_n 1) 1 15 := ⟨by decide +kernel, rfl⟩
theorem d18_15 : DAt B18 15 (.baload) 1 16 := ⟨by decide +kernel, rfl⟩
theorem d18_16 : DAt B18 16 (.ireturn) 1 17 := ⟨by decide +kernel, rfl⟩
def B19 : Bdy := ((⟨"CausalStableOwnLaw", "has", "(LCausalStable;III)Z"⟩ : MethodName), method_5_code, 5, (some .boolean), ({ frames := 2, cells := 0, slots := 0, locals := 31 } : Room))
theorem d19_0 : DAt B19 0 (.aload_n 0) 1 1 := ⟨by decide +kernel, rfl⟩
theorem d19_1 : DAt B19 1 (.iload_n 1) 1 2 := ⟨by decide +kernel, rfl⟩
theorem d19_2 : DAt B19 2 (.iload_n 2) 1 3 := ⟨by decide +kernel, rfl⟩
theorem d19_3 : DAt B19 3 (.iload_n 3) 1 4 := ⟨by decide +kernel, rfl⟩
theorem d19_4 : DAt B19 4 (.invokevirtual 59) 3 7 := ⟨by decide +kernel, rfl⟩
theorem d19_7 : DAt B19 7 (.istore 4) 2 9 := ⟨by decide +kernel, rfl⟩
theorem d19_9 : DAt B19 9 (.iload 4) 2 11 := ⟨by decide +kernel, rfl⟩
theorem d19_11 : DAt B19 11 (.iconst 2) 1 12 := ⟨by decide +kernel, rfl⟩
theorem d19_12 : DAt B19 12 (.if_icmp .eq 9) 3 15 := ⟨by decide +kernel, rfl⟩
theorem d19_15 : DAt B19 15 (.iload 4) 2 17 := ⟨by decide +kernel, rfl⟩
theorem d19_17 : DAt B19 17 (.iconst 3) 1 18 := ⟨by decide +kernel, rfl⟩
theorem d19_18 : DAt B19 18 (.if_icmp .ne 7) 3 21 := ⟨by decide +kernel, rfl⟩
theorem d19_21 : DAt B19 21 (.iconst 1) 1 22 := ⟨by decide +kernel, rfl⟩
theorem d19_22 : DAt B19 22 (.goto 4) 3 25 := ⟨by decide +kernel, rfl⟩
theorem d19_25 : DAt B19 25 (.iconst 0) 1 26 := ⟨by decide +kernel, rfl⟩
theorem d19_26 : DAt B19 26 (.ireturn) 1 27 := ⟨by decide +kernel, rfl⟩
def B8 : Bdy := ((⟨"CausalStable", "knownIndex", "(III)I"⟩ : MethodName), prog_1_method_7_code, 4, (some .int), ({ frames := 0, cells := 0, slots := 0, locals := 0 } : Room))
theorem d8_0 : DAt B8 0 (.iload_n 1) 1 1 := ⟨by decide +kernel, rfl⟩
theorem d8_1 : DAt B8 1 (.bipush 64) 2 3 := ⟨by decide +kernel, rfl⟩
theorem d8_3 : DAt B8 3 (.imul) 1 4 := ⟨by decide +kernel, rfl⟩
theorem d8_4 : DAt B8 4 (.iload_n 2) 1 5 := ⟨by decide +kernel, rfl⟩
theorem d8_5 : DAt B8 5 (.bipush 8) 2 7 := ⟨by decide +kernel, rfl⟩
theorem d8_7 : DAt B8 7 (.imul) 1 8 := ⟨by decide +kernel, rfl⟩
theorem d8_8 : DAt B8 8 (.iadd) 1 9 := ⟨by decide +kernel, rfl⟩
theorem d8_9 : DAt B8 9 (.iload_n 3) 1 10 := ⟨by decide +kernel, rfl⟩
theorem d8_10 : DAt B8 10 (.iadd) 1 11 := ⟨by decide +kernel, rfl⟩
theorem d8_11 : DAt B8 11 (.ireturn) 1 12 := ⟨by decide +kernel, rfl⟩
def B7 : Bdy := ((⟨"CausalStable", "known", "(III)I"⟩ : MethodName), prog_1_method_27_code, 5, (some .int), ({ frames := 1, cells := 0, slots := 0, locals := 15 } : Room))
theorem d7_0 : DAt B7 0 (.aload_n 0) 1 1 := ⟨by decide +kernel, rfl⟩
theorem d7_1 : DAt B7 1 (.iload_n 1) 1 2 := ⟨by decide +kernel, rfl⟩
theorem d7_2 : DAt B7 2 (.invokevirtual 68) 3 5 := ⟨by decide +kernel, rfl⟩
theorem d7_5 : DAt B7 5 (.ifCond .eq 19) 3 8 := ⟨by decide +kernel, rfl⟩
theorem d7_8 : DAt B7 8 (.aload_n 0) 1 9 := ⟨by decide +kernel, rfl⟩
theorem d7_9 : DAt B7 9 (.iload_n 2) 1 10 := ⟨by decide +kernel, rfl⟩
theorem d7_10 : DAt B7 10 (.invokevirtual 68) 3 13 := ⟨by decide +kernel, rfl⟩
theorem d7_13 : DAt B7 13 (.ifCond .eq 11) 3 16 := ⟨by decide +kernel, rfl⟩
theorem d7_16 : DAt B7 16 (.aload_n 0) 1 17 := ⟨by decide +kernel, rfl⟩
theorem d7_17 : DAt B7 17 (.iload_n 3) 1 18 := ⟨by decide +kernel, rfl⟩
theorem d7_18 : DAt B7 18 (.invokevirtual 68) 3 21 := ⟨by decide +kernel, rfl⟩
theorem d7_21 : DAt B7 21 (.ifCond .ne 5) 3 24 := ⟨by decide +kernel, rfl⟩
theorem d7_24 : DAt B7 24 (.iconst (-1)) 1 25 := ⟨by decide +kernel, rfl⟩
theorem d7_25 : DAt B7 25 (.ireturn) 1 26 := ⟨by decide +kernel, rfl⟩
theorem d7_26 : DAt B7 26 (.aload_n 0) 1 27 := ⟨by decide +kernel, rfl⟩
theorem d7_27 : DAt B7 27 (.iload_n 1) 1 28 := ⟨by decide +kernel, rfl⟩
theorem d7_28 : DAt B7 28 (.iload_n 2) 1 29 := ⟨by decide +kernel, rfl⟩
theorem d7_29 : DAt B7 29 (.iload_n 3) 1 30 := ⟨by decide +kernel, rfl⟩
theorem d7_30 : DAt B7 30 (.invokevirtual 49) 3 33 := ⟨by decide +kernel, rfl⟩
theorem d7_33 : DAt B7 33 (.istore 4) 2 35 := ⟨by decide +kernel, rfl⟩
theorem d7_35 : DAt B7 35 (.aload_n 0) 1 36 := ⟨by decide +kernel, rfl⟩
theorem d7_36 : DAt B7 36 (.getfield 29) 3 39 := ⟨by decide +kernel, rfl⟩
theorem d7_39 : DAt B7 39 (.iload 4) 2 41 := ⟨by decide +kernel, rfl⟩
theorem d7_41 : DAt B7 41 (.iaload) 1 42 := ⟨by decide +kernel, rfl⟩
theorem d7_42 : DAt B7 42 (.ireturn) 1 43 := ⟨by decide +kernel, rfl⟩
def B3 : Bdy := ((⟨"CausalStableOwnLaw", "holds", "(LCausalStable;I)Z"⟩ : MethodName), method_6_code, 10, (some .boolean), ({ frames := 3, cells := 0, slots := 0, locals := 47 } : Room))
theorem d3_0 : DAt B3 0 (.iconst 0) 1 1 := ⟨by decide +kernel, rfl⟩
theorem d3_1 : DAt B3 1 (.istore_n 2) 1 2 := ⟨by decide +kernel, rfl⟩
theorem d3_2 : DAt B3 2 (.iload_n 2) 1 3 := ⟨by decide +kernel, rfl⟩
theorem d3_3 : DAt B3 3 (.iload_n 1) 1 4 := ⟨by decide +kernel, rfl⟩
theorem d3_4 : DAt B3 4 (.if_icmp .ge 174) 3 7 := ⟨by decide +kernel, rfl⟩
theorem d3_7 : DAt B3 7 (.iconst 0) 1 8 := ⟨by decide +kernel, rfl⟩
theorem d3_8 : DAt B3 8 (.istore_n 3) 1 9 := ⟨by decide +kernel, rfl⟩
theorem d3_9 : DAt B3 9 (.iconst 0) 1 10 := ⟨by decide +kernel, rfl⟩
theorem d3_10 : DAt B3 10 (.istore 4) 2 12 := ⟨by decide +kernel, rfl⟩
theorem d3_12 : DAt B3 12 (.iload 4) 2 14 := ⟨by decide +kernel, rfl⟩
theorem d3_14 : DAt B3 14 (.iload_n 1) 1 15 := ⟨by decide +kernel, rfl⟩
theorem d3_15 : DAt B3 15 (.if_icmp .ge 19) 3 18 := ⟨by decide +kernel, rfl⟩
theorem d3_18 : DAt B3 18 (.iload_n 3) 1 19 := ⟨by decide +kernel, rfl⟩
theorem d3_19 : DAt B3 19 (.aload_n 0) 1 20 := ⟨by decide +kernel, rfl⟩
theorem d3_20 : DAt B3 20 (.iload_n 2) 1 21 := ⟨by decide +kernel, rfl⟩
theorem d3_21 : DAt B3 21 (.iload 4) 2 23 := ⟨by decide +kernel, rfl⟩
theorem d3_23 : DAt B3 23 (.invokevirtual 62) 3 26 := ⟨by decide +kernel, rfl⟩
theorem d3_26 : DAt B3 26 (.iadd) 1 27 := ⟨by decide +kernel, rfl⟩
theorem d3_27 : DAt B3 27 (.istore_n 3) 1 28 := ⟨by decide +kernel, rfl⟩
theorem d3_28 : DAt B3 28 (.iinc 4 1) 3 31 := ⟨by decide +kernel, rfl⟩
theorem d3_31 : DAt B3 31 (.goto (-19)) 3 34 := ⟨by decide +kernel, rfl⟩
theorem d3_34 : DAt B3 34 (.iconst 0) 1 35 := ⟨by decide +kernel, rfl⟩
theorem d3_35 : DAt B3 35 (.istore 4) 2 37 := ⟨by decide +kernel, rfl⟩
theorem d3_37 : DAt B3 37 (.iload 4) 2 39 := ⟨by decide +kernel, rfl⟩
theorem d3_39 : DAt B3 39 (.iload_n 3) 1 40 := ⟨by decide +kernel, rfl⟩
theorem d3_40 : DAt B3 40 (.if_icmp .ge 132) 3 43 := ⟨by decide +kernel, rfl⟩
theorem d3_43 : DAt B3 43 (.aload_n 0) 1 44 := ⟨by decide +kernel, rfl⟩
theorem d3_44 : DAt B3 44 (.iload_n 2) 1 45 := ⟨by decide +kernel, rfl⟩
theorem d3_45 : DAt B3 45 (.iload 4) 2 47 := ⟨by decide +kernel, rfl⟩
theorem d3_47 : DAt B3 47 (.invokevirtual 56) 3 50 := ⟨by decide +kernel, rfl⟩
theorem d3_50 : DAt B3 50 (.istore 5) 2 52 := ⟨by decide +kernel, rfl⟩
theorem d3_52 : DAt B3 52 (.iload 5) 2 54 := ⟨by decide +kernel, rfl⟩
theorem d3_54 : DAt B3 54 (.ifCond .ge 5) 3 57 := ⟨by decide +kernel, rfl⟩
theorem d3_57 : DAt B3 57 (.iconst 0) 1 58 := ⟨by decide +kernel, rfl⟩
theorem d3_58 : DAt B3 58 (.ireturn) 1 59 := ⟨by decide +kernel, rfl⟩
theorem d3_59 : DAt B3 59 (.iload 5) 2 61 := ⟨by decide +kernel, rfl⟩
theorem d3_61 : DAt B3 61 (.bipush 16) 2 63 := ⟨by decide +kernel, rfl⟩
theorem d3_63 : DAt B3 63 (.idiv) 1 64 := ⟨by decide +kernel, rfl⟩
theorem d3_64 : DAt B3 64 (.istore 6) 2 66 := ⟨by decide +kernel, rfl⟩
theorem d3_66 : DAt B3 66 (.iload 5) 2 68 := ⟨by decide +kernel, rfl⟩
theorem d3_68 : DAt B3 68 (.bipush 16) 2 70 := ⟨by decide +kernel, rfl⟩
theorem d3_70 : DAt B3 70 (.irem) 1 71 := ⟨by decide +kernel, rfl⟩
theorem d3_71 : DAt B3 71 (.istore 7) 2 73 := ⟨by decide +kernel, rfl⟩
theorem d3_73 : DAt B3 73 (.iload 6) 2 75 := ⟨by decide +kernel, rfl⟩
theorem d3_75 : DAt B3 75 (.iload_n 1) 1 76 := ⟨by decide +kernel, rfl⟩
theorem d3_76 : DAt B3 76 (.if_icmp .ge 21) 3 79 := ⟨by decide +kernel, rfl⟩
theorem d3_79 : DAt B3 79 (.iload 7) 2 81 := ⟨by decide +kernel, rfl⟩
theorem d3_81 : DAt B3 81 (.iconst 1) 1 82 := ⟨by decide +kernel, rfl⟩
theorem d3_82 : DAt B3 82 (.if_icmp .lt 15) 3 85 := ⟨by decide +kernel, rfl⟩
theorem d3_85 : DAt B3 85 (.iload 7) 2 87 := ⟨by decide +kernel, rfl⟩
theorem d3_87 : DAt B3 87 (.aload_n 0) 1 88 := ⟨by decide +kernel, rfl⟩
theorem d3_88 : DAt B3 88 (.iload_n 2) 1 89 := ⟨by decide +kernel, rfl⟩
theorem d3_89 : DAt B3 89 (.iload 6) 2 91 := ⟨by decide +kernel, rfl⟩
theorem d3_91 : DAt B3 91 (.invokevirtual 62) 3 94 := ⟨by decide +kernel, rfl⟩
theorem d3_94 : DAt B3 94 (.if_icmp .le 5) 3 97 := ⟨by decide +kernel, rfl⟩
theorem d3_97 : DAt B3 97 (.iconst 0) 1 98 := ⟨by decide +kernel, rfl⟩
theorem d3_98 : DAt B3 98 (.ireturn) 1 99 := ⟨by decide +kernel, rfl⟩
theorem d3_99 : DAt B3 99 (.iload 7) 2 101 := ⟨by decide +kernel, rfl⟩
theorem d3_101 : DAt B3 101 (.iconst 1) 1 102 := ⟨by decide +kernel, rfl⟩
theorem d3_102 : DAt B3 102 (.aload_n 0) 1 103 := ⟨by decide +kernel, rfl⟩
theorem d3_103 : DAt B3 103 (.iload_n 2) 1 104 := ⟨by decide +kernel, rfl⟩
theorem d3_104 : DAt B3 104 (.iload 4) 2 106 := ⟨by decide +kernel, rfl⟩
theorem d3_106 : DAt B3 106 (.iload 6) 2 108 := ⟨by decide +kernel, rfl⟩
theorem d3_108 : DAt B3 108 (.invokestatic 65) 3 111 := ⟨by decide +kernel, rfl⟩
theorem d3_111 : DAt B3 111 (.iadd) 1 112 := ⟨by decide +kernel, rfl⟩
theorem d3_112 : DAt B3 112 (.if_icmp .eq 5) 3 115 := ⟨by decide +kernel, rfl⟩
theorem d3_115 : DAt B3 115 (.iconst 0) 1 116 := ⟨by decide +kernel, rfl⟩
theorem d3_116 : DAt B3 116 (.ireturn) 1 117 := ⟨by decide +kernel, rfl⟩
theorem d3_117 : DAt B3 117 (.iconst 0) 1 118 := ⟨by decide +kernel, rfl⟩
theorem d3_118 : DAt B3 118 (.istore 8) 2 120 := ⟨by decide +kernel, rfl⟩
theorem d3_120 : DAt B3 120 (.iload 8) 2 122 := ⟨by decide +kernel, rfl⟩
theorem d3_122 : DAt B3 122 (.iload_n 1) 1 123 := ⟨by decide +kernel, rfl⟩
theorem d3_123 : DAt B3 123 (.if_icmp .ge 43) 3 126 := ⟨by decide +kernel, rfl⟩
theorem d3_126 : DAt B3 126 (.iload 8) 2 128 := ⟨by decide +kernel, rfl⟩
theorem d3_128 : DAt B3 128 (.iload 6) 2 130 := ⟨by decide +kernel, rfl⟩
theorem d3_130 : DAt B3 130 (.if_icmp .ne 6) 3 133 := ⟨by decide +kernel, rfl⟩
theorem d3_133 : DAt B3 133 (.goto 27) 3 136 := ⟨by decide +kernel, rfl⟩
theorem d3_136 : DAt B3 136 (.aload_n 0) 1 137 := ⟨by decide +kernel, rfl⟩
theorem d3_137 : DAt B3 137 (.iload_n 2) 1 138 := ⟨by decide +kernel, rfl⟩
theorem d3_138 : DAt B3 138 (.iload 4) 2 140 := ⟨by decide +kernel, rfl⟩
theorem d3_140 : DAt B3 140 (.iload 8) 2 142 := ⟨by decide +kernel, rfl⟩
theorem d3_142 : DAt B3 142 (.invokestatic 65) 3 145 := ⟨by decide +kernel, rfl⟩
theorem d3_145 : DAt B3 145 (.aload_n 0) 1 146 := ⟨by decide +kernel, rfl⟩
theorem d3_146 : DAt B3 146 (.iload 6) 2 148 := ⟨by decide +kernel, rfl⟩
theorem d3_148 : DAt B3 148 (.iload 7) 2 150 := ⟨by decide +kernel, rfl⟩
theorem d3_150 : DAt B3 150 (.iload 8) 2 152 := ⟨by decide +kernel, rfl⟩
theorem d3_152 : DAt B3 152 (.invokevirtual 69) 3 155 := ⟨by decide +kernel, rfl⟩
theorem d3_155 : DAt B3 155 (.if_icmp .ge 5) 3 158 := ⟨by decide +kernel, rfl⟩
theorem d3_158 : DAt B3 158 (.iconst 0) 1 159 := ⟨by decide +kernel, rfl⟩
theorem d3_159 : DAt B3 159 (.ireturn) 1 160 := ⟨by decide +kernel, rfl⟩
theorem d3_160 : DAt B3 160 (.iinc 8 1) 3 163 := ⟨by decide +kernel, rfl⟩
theorem d3_163 : DAt B3 163 (.goto (-43)) 3 166 := ⟨by decide +kernel, rfl⟩
theorem d3_166 : DAt B3 166 (.iinc 4 1) 3 169 := ⟨by decide +kernel, rfl⟩
theorem d3_169 : DAt B3 169 (.goto (-132)) 3 172 := ⟨by decide +kernel, rfl⟩
theorem d3_172 : DAt B3 172 (.iinc 2 1) 3 175 := ⟨by decide +kernel, rfl⟩
theorem d3_175 : DAt B3 175 (.goto (-173)) 3 178 := ⟨by decide +kernel, rfl⟩
theorem d3_178 : DAt B3 178 (.iconst 0) 1 179 := ⟨by decide +kernel, rfl⟩
theorem d3_179 : DAt B3 179 (.istore_n 2) 1 180 := ⟨by decide +kernel, rfl⟩
theorem d3_180 : DAt B3 180 (.iload_n 2) 1 181 := ⟨by decide +kernel, rfl⟩
theorem d3_181 : DAt B3 181 (.iload_n 1) 1 182 := ⟨by decide +kernel, rfl⟩
theorem d3_182 : DAt B3 182 (.if_icmp .ge 177) 3 185 := ⟨by decide +kernel, rfl⟩
theorem d3_185 : DAt B3 185 (.aload_n 0) 1 186 := ⟨by decide +kernel, rfl⟩
theorem d3_186 : DAt B3 186 (.iload_n 2) 1 187 := ⟨by decide +kernel, rfl⟩
theorem d3_187 : DAt B3 187 (.invokevirtual 22) 3 190 := ⟨by decide +kernel, rfl⟩
theorem d3_190 : DAt B3 190 (.istore_n 3) 1 191 := ⟨by decide +kernel, rfl⟩
theorem d3_191 : DAt B3 191 (.iconst 1) 1 192 := ⟨by decide +kernel, rfl⟩
theorem d3_192 : DAt B3 192 (.istore 4) 2 194 := ⟨by decide +kernel, rfl⟩
theorem d3_194 : DAt B3 194 (.iload 4) 2 196 := ⟨by decide +kernel, rfl⟩
theorem d3_196 : DAt B3 196 (.iload_n 3) 1 197 := ⟨by decide +kernel, rfl⟩
theorem d3_197 : DAt B3 197 (.if_icmp .gt 156) 3 200 := ⟨by decide +kernel, rfl⟩
theorem d3_200 : DAt B3 200 (.iconst 0) 1 201 := ⟨by decide +kernel, rfl⟩
theorem d3_201 : DAt B3 201 (.istore 5) 2 203 := ⟨by decide +kernel, rfl⟩
theorem d3_203 : DAt B3 203 (.iconst 0) 1 204 := ⟨by decide +kernel, rfl⟩
theorem d3_204 : DAt B3 204 (.istore 6) 2 206 := ⟨by decide +kernel, rfl⟩
theorem d3_206 : DAt B3 206 (.iconst 0) 1 207 := ⟨by decide +kernel, rfl⟩
theorem d3_207 : DAt B3 207 (.istore 7) 2 209 := ⟨by decide +kernel, rfl⟩
theorem d3_209 : DAt B3 209 (.iconst 0) 1 210 := ⟨by decide +kernel, rfl⟩
theorem d3_210 : DAt B3 210 (.istore 8) 2 212 := ⟨by decide +kernel, rfl⟩
theorem d3_212 : DAt B3 212 (.iload 8) 2 214 := ⟨by decide +kernel, rfl⟩
theorem d3_214 : DAt B3 214 (.iload_n 1) 1 215 := ⟨by decide +kernel, rfl⟩
theorem d3_215 : DAt B3 215 (.if_icmp .ge 65) 3 218 := ⟨by decide +kernel, rfl⟩
theorem d3_218 : DAt B3 218 (.aload_n 0) 1 219 := ⟨by decide +kernel, rfl⟩
theorem d3_219 : DAt B3 219 (.iload 8) 2 221 := ⟨by decide +kernel, rfl⟩
theorem d3_221 : DAt B3 221 (.iload_n 2) 1 222 := ⟨by decide +kernel, rfl⟩
theorem d3_222 : DAt B3 222 (.iload 4) 2 224 := ⟨by decide +kernel, rfl⟩
theorem d3_224 : DAt B3 224 (.invokevirtual 59) 3 227 := ⟨by decide +kernel, rfl⟩
theorem d3_227 : DAt B3 227 (.iconst 3) 1 228 := ⟨by decide +kernel, rfl⟩
theorem d3_228 : DAt B3 228 (.if_icmp .ne 6) 3 231 := ⟨by decide +kernel, rfl⟩
theorem d3_231 : DAt B3 231 (.iconst 1) 1 232 := ⟨by decide +kernel, rfl⟩
theorem d3_232 : DAt B3 232 (.istore 5) 2 234 := ⟨by decide +kernel, rfl⟩
theorem d3_234 : DAt B3 234 (.aload_n 0) 1 235 := ⟨by decide +kernel, rfl⟩
theorem d3_235 : DAt B3 235 (.iload 8) 2 237 := ⟨by decide +kernel, rfl⟩
theorem d3_237 : DAt B3 237 (.invokevirtual 72) 3 240 := ⟨by decide +kernel, rfl⟩
theorem d3_240 : DAt B3 240 (.ifCond .ne 34) 3 243 := ⟨by decide +kernel, rfl⟩
theorem d3_243 : DAt B3 243 (.aload_n 0) 1 244 := ⟨by decide +kernel, rfl⟩
theorem d3_244 : DAt B3 244 (.iload 8) 2 246 := ⟨by decide +kernel, rfl⟩
theorem d3_246 : DAt B3 246 (.iload_n 2) 1 247 := ⟨by decide +kernel, rfl⟩
theorem d3_247 : DAt B3 247 (.iload 4) 2 249 := ⟨by decide +kernel, rfl⟩
theorem d3_249 : DAt B3 249 (.invokestatic 76) 3 252 := ⟨by decide +kernel, rfl⟩
theorem d3_252 : DAt B3 252 (.ifCond .eq 6) 3 255 := ⟨by decide +kernel, rfl⟩
theorem d3_255 : DAt B3 255 (.iconst 1) 1 256 := ⟨by decide +kernel, rfl⟩
theorem d3_256 : DAt B3 256 (.istore 6) 2 258 := ⟨by decide +kernel, rfl⟩
theorem d3_258 : DAt B3 258 (.aload_n 0) 1 259 := ⟨by decide +kernel, rfl⟩
theorem d3_259 : DAt B3 259 (.iload 8) 2 261 := ⟨by decide +kernel, rfl⟩
theorem d3_261 : DAt B3 261 (.iload_n 2) 1 262 := ⟨by decide +kernel, rfl⟩
theorem d3_262 : DAt B3 262 (.iload 4) 2 264 := ⟨by decide +kernel, rfl⟩
theorem d3_264 : DAt B3 264 (.invokevirtual 59) 3 267 := ⟨by decide +kernel, rfl⟩
theorem d3_267 : DAt B3 267 (.iconst 2) 1 268 := ⟨by decide +kernel, rfl⟩
theorem d3_268 : DAt B3 268 (.if_icmp .ne 6) 3 271 := ⟨by decide +kernel, rfl⟩
theorem d3_271 : DAt B3 271 (.iconst 1) 1 272 := ⟨by decide +kernel, rfl⟩
theorem d3_272 : DAt B3 272 (.istore 7) 2 274 := ⟨by decide +kernel, rfl⟩
theorem d3_274 : DAt B3 274 (.iinc 8 1) 3 277 := ⟨by decide +kernel, rfl⟩
theorem d3_277 : DAt B3 277 (.goto (-65)) 3 280 := ⟨by decide +kernel, rfl⟩
theorem d3_280 : DAt B3 280 (.iconst 0) 1 281 := ⟨by decide +kernel, rfl⟩
theorem d3_281 : DAt B3 281 (.istore 8) 2 283 := ⟨by decide +kernel, rfl⟩
theorem d3_283 : DAt B3 283 (.iload 8) 2 285 := ⟨by decide +kernel, rfl⟩
theorem d3_285 : DAt B3 285 (.iload_n 1) 1 286 := ⟨by decide +kernel, rfl⟩
theorem d3_286 : DAt B3 286 (.if_icmp .ge 61) 3 289 := ⟨by decide +kernel, rfl⟩
theorem d3_289 : DAt B3 289 (.aload_n 0) 1 290 := ⟨by decide +kernel, rfl⟩
theorem d3_290 : DAt B3 290 (.iload 8) 2 292 := ⟨by decide +kernel, rfl⟩
theorem d3_292 : DAt B3 292 (.invokevirtual 72) 3 295 := ⟨by decide +kernel, rfl⟩
theorem d3_295 : DAt B3 295 (.ifCond .eq 6) 3 298 := ⟨by decide +kernel, rfl⟩
theorem d3_298 : DAt B3 298 (.goto 43) 3 301 := ⟨by decide +kernel, rfl⟩
theorem d3_301 : DAt B3 301 (.aload_n 0) 1 302 := ⟨by decide +kernel, rfl⟩
theorem d3_302 : DAt B3 302 (.iload 8) 2 304 := ⟨by decide +kernel, rfl⟩
theorem d3_304 : DAt B3 304 (.iload_n 2) 1 305 := ⟨by decide +kernel, rfl⟩
theorem d3_305 : DAt B3 305 (.iload 4) 2 307 := ⟨by decide +kernel, rfl⟩
theorem d3_307 : DAt B3 307 (.invokestatic 76) 3 310 := ⟨by decide +kernel, rfl⟩
theorem d3_310 : DAt B3 310 (.istore 9) 2 312 := ⟨by decide +kernel, rfl⟩
theorem d3_312 : DAt B3 312 (.iload 5) 2 314 := ⟨by decide +kernel, rfl⟩
theorem d3_314 : DAt B3 314 (.ifCond .eq 10) 3 317 := ⟨by decide +kernel, rfl⟩
theorem d3_317 : DAt B3 317 (.iload 9) 2 319 := ⟨by decide +kernel, rfl⟩
theorem d3_319 : DAt B3 319 (.ifCond .ne 5) 3 322 := ⟨by decide +kernel, rfl⟩
theorem d3_322 : DAt B3 322 (.iconst 0) 1 323 := ⟨by decide +kernel, rfl⟩
theorem d3_323 : DAt B3 323 (.ireturn) 1 324 := ⟨by decide +kernel, rfl⟩
theorem d3_324 : DAt B3 324 (.iload 6) 2 326 := ⟨by decide +kernel, rfl⟩
theorem d3_326 : DAt B3 326 (.ifCond .eq 15) 3 329 := ⟨by decide +kernel, rfl⟩
theorem d3_329 : DAt B3 329 (.iload 9) 2 331 := ⟨by decide +kernel, rfl⟩
theorem d3_331 : DAt B3 331 (.ifCond .ne 10) 3 334 := ⟨by decide +kernel, rfl⟩
theorem d3_334 : DAt B3 334 (.iload 7) 2 336 := ⟨by decide +kernel, rfl⟩
theorem d3_336 : DAt B3 336 (.ifCond .ne 5) 3 339 := ⟨by decide +kernel, rfl⟩
theorem d3_339 : DAt B3 339 (.iconst 0) 1 340 := ⟨by decide +kernel, rfl⟩
theorem d3_340 : DAt B3 340 (.ireturn) 1 341 := ⟨by decide +kernel, rfl⟩
theorem d3_341 : DAt B3 341 (.iinc 8 1) 3 344 := ⟨by decide +kernel, rfl⟩
theorem d3_344 : DAt B3 344 (.goto (-61)) 3 347 := ⟨by decide +kernel, rfl⟩
theorem d3_347 : DAt B3 347 (.iinc 4 1) 3 350 := ⟨by decide +kernel, rfl⟩
theorem d3_350 : DAt B3 350 (.goto (-156)) 3 353 := ⟨by decide +kernel, rfl⟩
theorem d3_353 : DAt B3 353 (.iinc 2 1) 3 356 := ⟨by decide +kernel, rfl⟩
theorem d3_356 : DAt B3 356 (.goto (-176)) 3 359 := ⟨by decide +kernel, rfl⟩
theorem d3_359 : DAt B3 359 (.iconst 0) 1 360 := ⟨by decide +kernel, rfl⟩
theorem d3_360 : DAt B3 360 (.istore_n 2) 1 361 := ⟨by decide +kernel, rfl⟩
theorem d3_361 : DAt B3 361 (.iload_n 2) 1 362 := ⟨by decide +kernel, rfl⟩
theorem d3_362 : DAt B3 362 (.iload_n 1) 1 363 := ⟨by decide +kernel, rfl⟩
theorem d3_363 : DAt B3 363 (.if_icmp .ge 57) 3 366 := ⟨by decide +kernel, rfl⟩
theorem d3_366 : DAt B3 366 (.iconst 0) 1 367 := ⟨by decide +kernel, rfl⟩
theorem d3_367 : DAt B3 367 (.istore_n 3) 1 368 := ⟨by decide +kernel, rfl⟩
theorem d3_368 : DAt B3 368 (.iload_n 3) 1 369 := ⟨by decide +kernel, rfl⟩
theorem d3_369 : DAt B3 369 (.iload_n 1) 1 370 := ⟨by decide +kernel, rfl⟩
theorem d3_370 : DAt B3 370 (.if_icmp .ge 44) 3 373 := ⟨by decide +kernel, rfl⟩
theorem d3_373 : DAt B3 373 (.iconst 0) 1 374 := ⟨by decide +kernel, rfl⟩
theorem d3_374 : DAt B3 374 (.istore 4) 2 376 := ⟨by decide +kernel, rfl⟩
theorem d3_376 : DAt B3 376 (.iload 4) 2 378 := ⟨by decide +kernel, rfl⟩
theorem d3_378 : DAt B3 378 (.iload_n 1) 1 379 := ⟨by decide +kernel, rfl⟩
theorem d3_379 : DAt B3 379 (.if_icmp .ge 29) 3 382 := ⟨by decide +kernel, rfl⟩
theorem d3_382 : DAt B3 382 (.aload_n 0) 1 383 := ⟨by decide +kernel, rfl⟩
theorem d3_383 : DAt B3 383 (.iload_n 2) 1 384 := ⟨by decide +kernel, rfl⟩
theorem d3_384 : DAt B3 384 (.iload_n 3) 1 385 := ⟨by decide +kernel, rfl⟩
theorem d3_385 : DAt B3 385 (.iload 4) 2 387 := ⟨by decide +kernel, rfl⟩
theorem d3_387 : DAt B3 387 (.invokevirtual 80) 3 390 := ⟨by decide +kernel, rfl⟩
theorem d3_390 : DAt B3 390 (.aload_n 0) 1 391 := ⟨by decide +kernel, rfl⟩
theorem d3_391 : DAt B3 391 (.iload_n 3) 1 392 := ⟨by decide +kernel, rfl⟩
theorem d3_392 : DAt B3 392 (.iload 4) 2 394 := ⟨by decide +kernel, rfl⟩
theorem d3_394 : DAt B3 394 (.invokevirtual 62) 3 397 := ⟨by decide +kernel, rfl⟩
theorem d3_397 : DAt B3 397 (.if_icmp .le 5) 3 400 := ⟨by decide +kernel, rfl⟩
theorem d3_400 : DAt B3 400 (.iconst 0) 1 401 := ⟨by decide +kernel, rfl⟩
theorem d3_401 : DAt B3 401 (.ireturn) 1 402 := ⟨by decide +kernel, rfl⟩
theorem d3_402 : DAt B3 402 (.iinc 4 1) 3 405 := ⟨by decide +kernel, rfl⟩
theorem d3_405 : DAt B3 405 (.goto (-29)) 3 408 := ⟨by decide +kernel, rfl⟩
theorem d3_408 : DAt B3 408 (.iinc 3 1) 3 411 := ⟨by decide +kernel, rfl⟩
theorem d3_411 : DAt B3 411 (.goto (-43)) 3 414 := ⟨by decide +kernel, rfl⟩
theorem d3_414 : DAt B3 414 (.iinc 2 1) 3 417 := ⟨by decide +kernel, rfl⟩
theorem d3_417 : DAt B3 417 (.goto (-56)) 3 420 := ⟨by decide +kernel, rfl⟩
theorem d3_420 : DAt B3 420 (.iconst 1) 1 421 := ⟨by decide +kernel, rfl⟩
theorem d3_421 : DAt B3 421 (.ireturn) 1 422 := ⟨by decide +kernel, rfl⟩
def B11 : Bdy := ((⟨"CausalStable", "deliverAt", "(III)V"⟩ : MethodName), prog_1_method_8_code, 7, none, ({ frames := 1, cells := 0, slots := 0, locals := 15 } : Room))
theorem d11_0 : DAt B11 0 (.aload_n 0) 1 1 := ⟨by decide +kernel, rfl⟩
theorem d11_1 : DAt B11 1 (.iload_n 1) 1 2 := ⟨by decide +kernel, rfl⟩
theorem d11_2 : DAt B11 2 (.iload_n 2) 1 3 := ⟨by decide +kernel, rfl⟩
theorem d11_3 : DAt B11 3 (.iload_n 3) 1 4 := ⟨by decide +kernel, rfl⟩
theorem d11_4 : DAt B11 4 (.invokevirtual 45) 3 7 := ⟨by decide +kernel, rfl⟩
theorem d11_7 : DAt B11 7 (.istore 4) 2 9 := ⟨by decide +kernel, rfl⟩
theorem d11_9 : DAt B11 9 (.aload_n 0) 1 10 := ⟨by decide +kernel, rfl⟩
theorem d11_10 : DAt B11 10 (.getfield 20) 3 13 := ⟨by decide +kernel, rfl⟩
theorem d11_13 : DAt B11 13 (.iload 4) 2 15 := ⟨by decide +kernel, rfl⟩
theorem d11_15 : DAt B11 15 (.iconst 2) 1 16 := ⟨by decide +kernel, rfl⟩
theorem d11_16 : DAt B11 16 (.iastore) 1 17 := ⟨by decide +kernel, rfl⟩
theorem d11_17 : DAt B11 17 (.aload_n 0) 1 18 := ⟨by decide +kernel, rfl⟩
theorem d11_18 : DAt B11 18 (.getfield 17) 3 21 := ⟨by decide +kernel, rfl⟩
theorem d11_21 : DAt B11 21 (.iload_n 1) 1 22 := ⟨by decide +kernel, rfl⟩
theorem d11_22 : DAt B11 22 (.bipush 8) 2 24 := ⟨by decide +kernel, rfl⟩
theorem d11_24 : DAt B11 24 (.imul) 1 25 := ⟨by decide +kernel, rfl⟩
theorem d11_25 : DAt B11 25 (.iload_n 2) 1 26 := ⟨by decide +kernel, rfl⟩
theorem d11_26 : DAt B11 26 (.iadd) 1 27 := ⟨by decide +kernel, rfl⟩
theorem d11_27 : DAt B11 27 (.aload_n 0) 1 28 := ⟨by decide +kernel, rfl⟩
theorem d11_28 : DAt B11 28 (.getfield 17) 3 31 := ⟨by decide +kernel, rfl⟩
theorem d11_31 : DAt B11 31 (.iload_n 1) 1 32 := ⟨by decide +kernel, rfl⟩
theorem d11_32 : DAt B11 32 (.bipush 8) 2 34 := ⟨by decide +kernel, rfl⟩
theorem d11_34 : DAt B11 34 (.imul) 1 35 := ⟨by decide +kernel, rfl⟩
theorem d11_35 : DAt B11 35 (.iload_n 2) 1 36 := ⟨by decide +kernel, rfl⟩
theorem d11_36 : DAt B11 36 (.iadd) 1 37 := ⟨by decide +kernel, rfl⟩
theorem d11_37 : DAt B11 37 (.iaload) 1 38 := ⟨by decide +kernel, rfl⟩
theorem d11_38 : DAt B11 38 (.iconst 1) 1 39 := ⟨by decide +kernel, rfl⟩
theorem d11_39 : DAt B11 39 (.iadd) 1 40 := ⟨by decide +kernel, rfl⟩
theorem d11_40 : DAt B11 40 (.iastore) 1 41 := ⟨by decide +kernel, rfl⟩
theorem d11_41 : DAt B11 41 (.aload_n 0) 1 42 := ⟨by decide +kernel, rfl⟩
theorem d11_42 : DAt B11 42 (.getfield 35) 3 45 := ⟨by decide +kernel, rfl⟩
theorem d11_45 : DAt B11 45 (.iload_n 1) 1 46 := ⟨by decide +kernel, rfl⟩
theorem d11_46 : DAt B11 46 (.iaload) 1 47 := ⟨by decide +kernel, rfl⟩
theorem d11_47 : DAt B11 47 (.istore 5) 2 49 := ⟨by decide +kernel, rfl⟩
theorem d11_49 : DAt B11 49 (.iload 5) 2 51 := ⟨by decide +kernel, rfl⟩
theorem d11_51 : DAt B11 51 (.ifCond .lt 38) 3 54 := ⟨by decide +kernel, rfl⟩
theorem d11_54 : DAt B11 54 (.iload 5) 2 56 := ⟨by decide +kernel, rfl⟩
theorem d11_56 : DAt B11 56 (.bipush 64) 2 58 := ⟨by decide +kernel, rfl⟩
theorem d11_58 : DAt B11 58 (.if_icmp .ge 31) 3 61 := ⟨by decide +kernel, rfl⟩
theorem d11_61 : DAt B11 61 (.aload_n 0) 1 62 := ⟨by decide +kernel, rfl⟩
theorem d11_62 : DAt B11 62 (.getfield 32) 3 65 := ⟨by decide +kernel, rfl⟩
theorem d11_65 : DAt B11 65 (.iload_n 1) 1 66 := ⟨by decide +kernel, rfl⟩
theorem d11_66 : DAt B11 66 (.bipush 64) 2 68 := ⟨by decide +kernel, rfl⟩
theorem d11_68 : DAt B11 68 (.imul) 1 69 := ⟨by decide +kernel, rfl⟩
theorem d11_69 : DAt B11 69 (.iload 5) 2 71 := ⟨by decide +kernel, rfl⟩
theorem d11_71 : DAt B11 71 (.iadd) 1 72 := ⟨by decide +kernel, rfl⟩
theorem d11_72 : DAt B11 72 (.iload_n 2) 1 73 := ⟨by decide +kernel, rfl⟩
theorem d11_73 : DAt B11 73 (.bipush 16) 2 75 := ⟨by decide +kernel, rfl⟩
theorem d11_75 : DAt B11 75 (.imul) 1 76 := ⟨by decide +kernel, rfl⟩
theorem d11_76 : DAt B11 76 (.iload_n 3) 1 77 := ⟨by decide +kernel, rfl⟩
theorem d11_77 : DAt B11 77 (.iadd) 1 78 := ⟨by decide +kernel, rfl⟩
theorem d11_78 : DAt B11 78 (.iastore) 1 79 := ⟨by decide +kernel, rfl⟩
theorem d11_79 : DAt B11 79 (.aload_n 0) 1 80 := ⟨by decide +kernel, rfl⟩
theorem d11_80 : DAt B11 80 (.getfield 35) 3 83 := ⟨by decide +kernel, rfl⟩
theorem d11_83 : DAt B11 83 (.iload_n 1) 1 84 := ⟨by decide +kernel, rfl⟩
theorem d11_84 : DAt B11 84 (.iload 5) 2 86 := ⟨by decide +kernel, rfl⟩
theorem d11_86 : DAt B11 86 (.iconst 1) 1 87 := ⟨by decide +kernel, rfl⟩
theorem d11_87 : DAt B11 87 (.iadd) 1 88 := ⟨by decide +kernel, rfl⟩
theorem d11_88 : DAt B11 88 (.iastore) 1 89 := ⟨by decide +kernel, rfl⟩
theorem d11_89 : DAt B11 89 (.aload_n 0) 1 90 := ⟨by decide +kernel, rfl⟩
theorem d11_90 : DAt B11 90 (.iload_n 1) 1 91 := ⟨by decide +kernel, rfl⟩
theorem d11_91 : DAt B11 91 (.iload_n 1) 1 92 := ⟨by decide +kernel, rfl⟩
theorem d11_92 : DAt B11 92 (.iload_n 2) 1 93 := ⟨by decide +kernel, rfl⟩
theorem d11_93 : DAt B11 93 (.invokevirtual 49) 3 96 := ⟨by decide +kernel, rfl⟩
theorem d11_96 : DAt B11 96 (.istore 6) 2 98 := ⟨by decide +kernel, rfl⟩
theorem d11_98 : DAt B11 98 (.aload_n 0) 1 99 := ⟨by decide +kernel, rfl⟩
theorem d11_99 : DAt B11 99 (.getfield 29) 3 102 := ⟨by decide +kernel, rfl⟩
theorem d11_102 : DAt B11 102 (.iload 6) 2 104 := ⟨by decide +kernel, rfl⟩
theorem d11_104 : DAt B11 104 (.aload_n 0) 1 105 := ⟨by decide +kernel, rfl⟩
theorem d11_105 : DAt B11 105 (.getfield 17) 3 108 := ⟨by decide +kernel, rfl⟩
theorem d11_108 : DAt B11 108 (.iload_n 1) 1 109 := ⟨by decide +kernel, rfl⟩
theorem d11_109 : DAt B11 109 (.bipush 8) 2 111 := ⟨by decide +kernel, rfl⟩
theorem d11_111 : DAt B11 111 (.imul) 1 112 := ⟨by decide +kernel, rfl⟩
theorem d11_112 : DAt B11 112 (.iload_n 2) 1 113 := ⟨by decide +kernel, rfl⟩
theorem d11_113 : DAt B11 113 (.iadd) 1 114 := ⟨by decide +kernel, rfl⟩
theorem d11_114 : DAt B11 114 (.iaload) 1 115 := ⟨by decide +kernel, rfl⟩
theorem d11_115 : DAt B11 115 (.iastore) 1 116 := ⟨by decide +kernel, rfl⟩
theorem d11_116 : DAt B11 116 (.return_) 1 117 := ⟨by decide +kernel, rfl⟩
def B9 : Bdy := ((⟨"CausalStable", "broadcast", "(I)I"⟩ : MethodName), prog_1_method_13_code, 5, (some .int), ({ frames := 2, cells := 0, slots := 0, locals := 33 } : Room))
theorem d9_0 : DAt B9 0 (.aload_n 0) 1 1 := ⟨by decide +kernel, rfl⟩
theorem d9_1 : DAt B9 1 (.iload_n 1) 1 2 := ⟨by decide +kernel, rfl⟩
theorem d9_2 : DAt B9 2 (.invokevirtual 68) 3 5 := ⟨by decide +kernel, rfl⟩
theorem d9_5 : DAt B9 5 (.ifCond .ne 5) 3 8 := ⟨by decide +kernel, rfl⟩
theorem d9_8 : DAt B9 8 (.iconst (-1)) 1 9 := ⟨by decide +kernel, rfl⟩
theorem d9_9 : DAt B9 9 (.ireturn) 1 10 := ⟨by decide +kernel, rfl⟩
theorem d9_10 : DAt B9 10 (.aload_n 0) 1 11 := ⟨by decide +kernel, rfl⟩
theorem d9_11 : DAt B9 11 (.getfield 13) 3 14 := ⟨by decide +kernel, rfl⟩
theorem d9_14 : DAt B9 14 (.iload_n 1) 1 15 := ⟨by decide +kernel, rfl⟩
theorem d9_15 : DAt B9 15 (.baload) 1 16 := ⟨by decide +kernel, rfl⟩
theorem d9_16 : DAt B9 16 (.ifCond .eq 6) 3 19 := ⟨by decide +kernel, rfl⟩
theorem d9_19 : DAt B9 19 (.bipush (-2)) 2 21 := ⟨by decide +kernel, rfl⟩
theorem d9_21 : DAt B9 21 (.ireturn) 1 22 := ⟨by decide +kernel, rfl⟩
theorem d9_22 : DAt B9 22 (.aload_n 0) 1 23 := ⟨by decide +kernel, rfl⟩
theorem d9_23 : DAt B9 23 (.getfield 7) 3 26 := ⟨by decide +kernel, rfl⟩
theorem d9_26 : DAt B9 26 (.iload_n 1) 1 27 := ⟨by decide +kernel, rfl⟩
theorem d9_27 : DAt B9 27 (.iaload) 1 28 := ⟨by decide +kernel, rfl⟩
theorem d9_28 : DAt B9 28 (.aload_n 0) 1 29 := ⟨by decide +kernel, rfl⟩
theorem d9_29 : DAt B9 29 (.getfield 42) 3 32 := ⟨by decide +kernel, rfl⟩
theorem d9_32 : DAt B9 32 (.if_icmp .lt 6) 3 35 := ⟨by decide +kernel, rfl⟩
theorem d9_35 : DAt B9 35 (.bipush (-3)) 2 37 := ⟨by decide +kernel, rfl⟩
theorem d9_37 : DAt B9 37 (.ireturn) 1 38 := ⟨by decide +kernel, rfl⟩
theorem d9_38 : DAt B9 38 (.aload_n 0) 1 39 := ⟨by decide +kernel, rfl⟩
theorem d9_39 : DAt B9 39 (.getfield 7) 3 42 := ⟨by decide +kernel, rfl⟩
theorem d9_42 : DAt B9 42 (.iload_n 1) 1 43 := ⟨by decide +kernel, rfl⟩
theorem d9_43 : DAt B9 43 (.iaload) 1 44 := ⟨by decide +kernel, rfl⟩
theorem d9_44 : DAt B9 44 (.iconst 1) 1 45 := ⟨by decide +kernel, rfl⟩
theorem d9_45 : DAt B9 45 (.iadd) 1 46 := ⟨by decide +kernel, rfl⟩
theorem d9_46 : DAt B9 46 (.istore_n 2) 1 47 := ⟨by decide +kernel, rfl⟩
theorem d9_47 : DAt B9 47 (.aload_n 0) 1 48 := ⟨by decide +kernel, rfl⟩
theorem d9_48 : DAt B9 48 (.getfield 7) 3 51 := ⟨by decide +kernel, rfl⟩
theorem d9_51 : DAt B9 51 (.iload_n 1) 1 52 := ⟨by decide +kernel, rfl⟩
theorem d9_52 : DAt B9 52 (.iload_n 2) 1 53 := ⟨by decide +kernel, rfl⟩
theorem d9_53 : DAt B9 53 (.iastore) 1 54 := ⟨by decide +kernel, rfl⟩
theorem d9_54 : DAt B9 54 (.aload_n 0) 1 55 := ⟨by decide +kernel, rfl⟩
theorem d9_55 : DAt B9 55 (.iload_n 1) 1 56 := ⟨by decide +kernel, rfl⟩
theorem d9_56 : DAt B9 56 (.iload_n 2) 1 57 := ⟨by decide +kernel, rfl⟩
theorem d9_57 : DAt B9 57 (.invokevirtual 56) 3 60 := ⟨by decide +kernel, rfl⟩
theorem d9_60 : DAt B9 60 (.istore_n 3) 1 61 := ⟨by decide +kernel, rfl⟩
theorem d9_61 : DAt B9 61 (.iconst 0) 1 62 := ⟨by decide +kernel, rfl⟩
theorem d9_62 : DAt B9 62 (.istore 4) 2 64 := ⟨by decide +kernel, rfl⟩
theorem d9_64 : DAt B9 64 (.iload 4) 2 66 := ⟨by decide +kernel, rfl⟩
theorem d9_66 : DAt B9 66 (.aload_n 0) 1 67 := ⟨by decide +kernel, rfl⟩
theorem d9_67 : DAt B9 67 (.getfield 38) 3 70 := ⟨by decide +kernel, rfl⟩
theorem d9_70 : DAt B9 70 (.if_icmp .ge 33) 3 73 := ⟨by decide +kernel, rfl⟩
theorem d9_73 : DAt B9 73 (.aload_n 0) 1 74 := ⟨by decide +kernel, rfl⟩
theorem d9_74 : DAt B9 74 (.getfield 23) 3 77 := ⟨by decide +kernel, rfl⟩
theorem d9_77 : DAt B9 77 (.iload_n 3) 1 78 := ⟨by decide +kernel, rfl⟩
theorem d9_78 : DAt B9 78 (.bipush 8) 2 80 := ⟨by decide +kernel, rfl⟩
theorem d9_80 : DAt B9 80 (.imul) 1 81 := ⟨by decide +kernel, rfl⟩
theorem d9_81 : DAt B9 81 (.iload 4) 2 83 := ⟨by decide +kernel, rfl⟩
theorem d9_83 : DAt B9 83 (.iadd) 1 84 := ⟨by decide +kernel, rfl⟩
theorem d9_84 : DAt B9 84 (.aload_n 0) 1 85 := ⟨by decide +kernel, rfl⟩
theorem d9_85 : DAt B9 85 (.getfield 17) 3 88 := ⟨by decide +kernel, rfl⟩
theorem d9_88 : DAt B9 88 (.iload_n 1) 1 89 := ⟨by decide +kernel, rfl⟩
theorem d9_89 : DAt B9 89 (.bipush 8) 2 91 := ⟨by decide +kernel, rfl⟩
theorem d9_91 : DAt B9 91 (.imul) 1 92 := ⟨by decide +kernel, rfl⟩
theorem d9_92 : DAt B9 92 (.iload 4) 2 94 := ⟨by decide +kernel, rfl⟩
theorem d9_94 : DAt B9 94 (.iadd) 1 95 := ⟨by decide +kernel, rfl⟩
theorem d9_95 : DAt B9 95 (.iaload) 1 96 := ⟨by decide +kernel, rfl⟩
theorem d9_96 : DAt B9 96 (.iastore) 1 97 := ⟨by decide +kernel, rfl⟩
theorem d9_97 : DAt B9 97 (.iinc 4 1) 3 100 := ⟨by decide +kernel, rfl⟩
theorem d9_100 : DAt B9 100 (.goto (-36)) 3 103 := ⟨by decide +kernel, rfl⟩
theorem d9_103 : DAt B9 103 (.aload_n 0) 1 104 := ⟨by decide +kernel, rfl⟩
theorem d9_104 : DAt B9 104 (.getfield 23) 3 107 := ⟨by decide +kernel, rfl⟩
theorem d9_107 : DAt B9 107 (.iload_n 3) 1 108 := ⟨by decide +kernel, rfl⟩
theorem d9_108 : DAt B9 108 (.bipush 8) 2 110 := ⟨by decide +kernel, rfl⟩
theorem d9_110 : DAt B9 110 (.imul) 1 111 := ⟨by decide +kernel, rfl⟩
theorem d9_111 : DAt B9 111 (.iload_n 1) 1 112 := ⟨by decide +kernel, rfl⟩
theorem d9_112 : DAt B9 112 (.iadd) 1 113 := ⟨by decide +kernel, rfl⟩
theorem d9_113 : DAt B9 113 (.iload_n 2) 1 114 := ⟨by decide +kernel, rfl⟩
theorem d9_114 : DAt B9 114 (.iastore) 1 115 := ⟨by decide +kernel, rfl⟩
theorem d9_115 : DAt B9 115 (.aload_n 0) 1 116 := ⟨by decide +kernel, rfl⟩
theorem d9_116 : DAt B9 116 (.iload_n 1) 1 117 := ⟨by decide +kernel, rfl⟩
theorem d9_117 : DAt B9 117 (.iload_n 1) 1 118 := ⟨by decide +kernel, rfl⟩
theorem d9_118 : DAt B9 118 (.iload_n 2) 1 119 := ⟨by decide +kernel, rfl⟩
theorem d9_119 : DAt B9 119 (.invokevirtual 64) 3 122 := ⟨by decide +kernel, rfl⟩
theorem d9_122 : DAt B9 122 (.iconst 0) 1 123 := ⟨by decide +kernel, rfl⟩
theorem d9_123 : DAt B9 123 (.istore 4) 2 125 := ⟨by decide +kernel, rfl⟩
theorem d9_125 : DAt B9 125 (.iload 4) 2 127 := ⟨by decide +kernel, rfl⟩
theorem d9_127 : DAt B9 127 (.aload_n 0) 1 128 := ⟨by decide +kernel, rfl⟩
theorem d9_128 : DAt B9 128 (.getfield 38) 3 131 := ⟨by decide +kernel, rfl⟩
theorem d9_131 : DAt B9 131 (.if_icmp .ge 32) 3 134 := ⟨by decide +kernel, rfl⟩
theorem d9_134 : DAt B9 134 (.aload_n 0) 1 135 := ⟨by decide +kernel, rfl⟩
theorem d9_135 : DAt B9 135 (.getfield 26) 3 138 := ⟨by decide +kernel, rfl⟩
theorem d9_138 : DAt B9 138 (.iload_n 3) 1 139 := ⟨by decide +kernel, rfl⟩
theorem d9_139 : DAt B9 139 (.bipush 8) 2 141 := ⟨by decide +kernel, rfl⟩
theorem d9_141 : DAt B9 141 (.imul) 1 142 := ⟨by decide +kernel, rfl⟩
theorem d9_142 : DAt B9 142 (.iload 4) 2 144 := ⟨by decide +kernel, rfl⟩
theorem d9_144 : DAt B9 144 (.iadd) 1 145 := ⟨by decide +kernel, rfl⟩
theorem d9_145 : DAt B9 145 (.iload 4) 2 147 := ⟨by decide +kernel, rfl⟩
theorem d9_147 : DAt B9 147 (.iload_n 1) 1 148 := ⟨by decide +kernel, rfl⟩
theorem d9_148 : DAt B9 148 (.if_icmp .ne 7) 3 151 := ⟨by decide +kernel, rfl⟩
theorem d9_151 : DAt B9 151 (.iconst 0) 1 152 := ⟨by decide +kernel, rfl⟩
theorem d9_152 : DAt B9 152 (.goto 4) 3 155 := ⟨by decide +kernel, rfl⟩
theorem d9_155 : DAt B9 155 (.iconst 1) 1 156 := ⟨by decide +kernel, rfl⟩
theorem d9_156 : DAt B9 156 (.iastore) 1 157 := ⟨by decide +kernel, rfl⟩
theorem d9_157 : DAt B9 157 (.iinc 4 1) 3 160 := ⟨by decide +kernel, rfl⟩
theorem d9_160 : DAt B9 160 (.goto (-35)) 3 163 := ⟨by decide +kernel, rfl⟩
theorem d9_163 : DAt B9 163 (.iload_n 2) 1 164 := ⟨by decide +kernel, rfl⟩
theorem d9_164 : DAt B9 164 (.ireturn) 1 165 := ⟨by decide +kernel, rfl⟩
def B21 : Bdy := ((⟨"CausalStable", "copyIndex", "(III)I"⟩ : MethodName), prog_1_method_6_code, 4, (some .int), ({ frames := 0, cells := 0, slots := 0, locals := 0 } : Room))
theorem d21_0 : DAt B21 0 (.iload_n 1) 1 1 := ⟨by decide +kernel, rfl⟩
theorem d21_1 : DAt B21 1 (.bipush 8) 2 3 := ⟨by decide +kernel, rfl⟩
theorem d21_3 : DAt B21 3 (.imul) 1 4 := ⟨by decide +kernel, rfl⟩
theorem d21_4 : DAt B21 4 (.iload_n 2) 1 5 := ⟨by decide +kernel, rfl⟩
theorem d21_5 : DAt B21 5 (.iadd) 1 6 := ⟨by decide +kernel, rfl⟩
theorem d21_6 : DAt B21 6 (.iconst 1) 1 7 := ⟨by decide +kernel, rfl⟩
theorem d21_7 : DAt B21 7 (.isub) 1 8 := ⟨by decide +kernel, rfl⟩
theorem d21_8 : DAt B21 8 (.bipush 8) 2 10 := ⟨by decide +kernel, rfl⟩
theorem d21_10 : DAt B21 10 (.imul) 1 11 := ⟨by decide +kernel, rfl⟩
theorem d21_11 : DAt B21 11 (.iload_n 3) 1 12 := ⟨by decide +kernel, rfl⟩
theorem d21_12 : DAt B21 12 (.iadd) 1 13 := ⟨by decide +kernel, rfl⟩
theorem d21_13 : DAt B21 13 (.ireturn) 1 14 := ⟨by decide +kernel, rfl⟩
def B20 : Bdy := ((⟨"CausalStable", "copies", "(III)I"⟩ : MethodName), prog_1_method_23_code, 5, (some .int), ({ frames := 1, cells := 0, slots := 0, locals := 15 } : Room))
theorem d20_0 : DAt B20 0 (.aload_n 0) 1 1 := ⟨by decide +kernel, rfl⟩
theorem d20_1 : DAt B20 1 (.iload_n 1) 1 2 := ⟨by decide +kernel, rfl⟩
theorem d20_2 : DAt B20 2 (.iload_n 2) 1 3 := ⟨by decide +kernel, rfl⟩
theorem d20_3 : DAt B20 3 (.invokevirtual 52) 3 6 := ⟨by decide +kernel, rfl⟩
theorem d20_6 : DAt B20 6 (.ifCond .eq 11) 3 9 := ⟨by decide +kernel, rfl⟩
theorem d20_9 : DAt B20 9 (.aload_n 0) 1 10 := ⟨by decide +kernel, rfl⟩
theorem d20_10 : DAt B20 10 (.iload_n 3) 1 11 := ⟨by decide +kernel, rfl⟩
theorem d20_11 : DAt B20 11 (.invokevirtual 68) 3 14 := ⟨by decide +kernel, rfl⟩
theorem d20_14 : DAt B20 14 (.ifCond .ne 5) 3 17 := ⟨by decide +kernel, rfl⟩
theorem d20_17 : DAt B20 17 (.iconst (-1)) 1 18 := ⟨by decide +kernel, rfl⟩
theorem d20_18 : DAt B20 18 (.ireturn) 1 19 := ⟨by decide +kernel, rfl⟩
theorem d20_19 : DAt B20 19 (.aload_n 0) 1 20 := ⟨by decide +kernel, rfl⟩
theorem d20_20 : DAt B20 20 (.iload_n 1) 1 21 := ⟨by decide +kernel, rfl⟩
theorem d20_21 : DAt B20 21 (.iload_n 2) 1 22 := ⟨by decide +kernel, rfl⟩
theorem d20_22 : DAt B20 22 (.iload_n 3) 1 23 := ⟨by decide +kernel, rfl⟩
theorem d20_23 : DAt B20 23 (.invokevirtual 72) 3 26 := ⟨by decide +kernel, rfl⟩
theorem d20_26 : DAt B20 26 (.istore 4) 2 28 := ⟨by decide +kernel, rfl⟩
theorem d20_28 : DAt B20 28 (.aload_n 0) 1 29 := ⟨by decide +kernel, rfl⟩
theorem d20_29 : DAt B20 29 (.getfield 26) 3 32 := ⟨by decide +kernel, rfl⟩
theorem d20_32 : DAt B20 32 (.iload 4) 2 34 := ⟨by decide +kernel, rfl⟩
theorem d20_34 : DAt B20 34 (.iaload) 1 35 := ⟨by decide +kernel, rfl⟩
theorem d20_35 : DAt B20 35 (.ireturn) 1 36 := ⟨by decide +kernel, rfl⟩
def B24 : Bdy := ((⟨"CausalStable", "isDeliverable", "(III)Z"⟩ : MethodName), prog_1_method_9_code, 7, (some .boolean), ({ frames := 1, cells := 0, slots := 0, locals := 15 } : Room))
theorem d24_0 : DAt B24 0 (.aload_n 0) 1 1 := ⟨by decide +kernel, rfl⟩
theorem d24_1 : DAt B24 1 (.iload_n 2) 1 2 := ⟨by decide +kernel, rfl⟩
theorem d24_2 : DAt B24 2 (.iload_n 3) 1 3 := ⟨by decide +kernel, rfl⟩
theorem d24_3 : DAt B24 3 (.invokevirtual 52) 3 6 := ⟨by decide +kernel, rfl⟩
theorem d24_6 : DAt B24 6 (.ifCond .ne 5) 3 9 := ⟨by decide +kernel, rfl⟩
theorem d24_9 : DAt B24 9 (.iconst 0) 1 10 := ⟨by decide +kernel, rfl⟩
theorem d24_10 : DAt B24 10 (.ireturn) 1 11 := ⟨by decide +kernel, rfl⟩
theorem d24_11 : DAt B24 11 (.aload_n 0) 1 12 := ⟨by decide +kernel, rfl⟩
theorem d24_12 : DAt B24 12 (.iload_n 1) 1 13 := ⟨by decide +kernel, rfl⟩
theorem d24_13 : DAt B24 13 (.iload_n 2) 1 14 := ⟨by decide +kernel, rfl⟩
theorem d24_14 : DAt B24 14 (.iload_n 3) 1 15 := ⟨by decide +kernel, rfl⟩
theorem d24_15 : DAt B24 15 (.invokevirtual 45) 3 18 := ⟨by decide +kernel, rfl⟩
theorem d24_18 : DAt B24 18 (.istore 4) 2 20 := ⟨by decide +kernel, rfl⟩
theorem d24_20 : DAt B24 20 (.aload_n 0) 1 21 := ⟨by decide +kernel, rfl⟩
theorem d24_21 : DAt B24 21 (.getfield 20) 3 24 := ⟨by decide +kernel, rfl⟩
theorem d24_24 : DAt B24 24 (.iload 4) 2 26 := ⟨by decide +kernel, rfl⟩
theorem d24_26 : DAt B24 26 (.iaload) 1 27 := ⟨by decide +kernel, rfl⟩
theorem d24_27 : DAt B24 27 (.iconst 1) 1 28 := ⟨by decide +kernel, rfl⟩
theorem d24_28 : DAt B24 28 (.if_icmp .eq 5) 3 31 := ⟨by decide +kernel, rfl⟩
theorem d24_31 : DAt B24 31 (.iconst 0) 1 32 := ⟨by decide +kernel, rfl⟩
theorem d24_32 : DAt B24 32 (.ireturn) 1 33 := ⟨by decide +kernel, rfl⟩
theorem d24_33 : DAt B24 33 (.iload_n 3) 1 34 := ⟨by decide +kernel, rfl⟩
theorem d24_34 : DAt B24 34 (.aload_n 0) 1 35 := ⟨by decide +kernel, rfl⟩
theorem d24_35 : DAt B24 35 (.getfield 17) 3 38 := ⟨by decide +kernel, rfl⟩
theorem d24_38 : DAt B24 38 (.iload_n 1) 1 39 := ⟨by decide +kernel, rfl⟩
theorem d24_39 : DAt B24 39 (.bipush 8) 2 41 := ⟨by decide +kernel, rfl⟩
theorem d24_41 : DAt B24 41 (.imul) 1 42 := ⟨by decide +kernel, rfl⟩
theorem d24_42 : DAt B24 42 (.iload_n 2) 1 43 := ⟨by decide +kernel, rfl⟩
theorem d24_43 : DAt B24 43 (.iadd) 1 44 := ⟨by decide +kernel, rfl⟩
theorem d24_44 : DAt B24 44 (.iaload) 1 45 := ⟨by decide +kernel, rfl⟩
theorem d24_45 : DAt B24 45 (.iconst 1) 1 46 := ⟨by decide +kernel, rfl⟩
theorem d24_46 : DAt B24 46 (.iadd) 1 47 := ⟨by decide +kernel, rfl⟩
theorem d24_47 : DAt B24 47 (.if_icmp .eq 5) 3 50 := ⟨by decide +kernel, rfl⟩
theorem d24_50 : DAt B24 50 (.iconst 0) 1 51 := ⟨by decide +kernel, rfl⟩
theorem d24_51 : DAt B24 51 (.ireturn) 1 52 := ⟨by decide +kernel, rfl⟩
theorem d24_52 : DAt B24 52 (.aload_n 0) 1 53 := ⟨by decide +kernel, rfl⟩
theorem d24_53 : DAt B24 53 (.iload_n 2) 1 54 := ⟨by decide +kernel, rfl⟩
theorem d24_54 : DAt B24 54 (.iload_n 3) 1 55 := ⟨by decide +kernel, rfl⟩
theorem d24_55 : DAt B24 55 (.invokevirtual 56) 3 58 := ⟨by decide +kernel, rfl⟩
theorem d24_58 : DAt B24 58 (.istore 5) 2 60 := ⟨by decide +kernel, rfl⟩
theorem d24_60 : DAt B24 60 (.iconst 0) 1 61 := ⟨by decide +kernel, rfl⟩
theorem d24_61 : DAt B24 61 (.istore 6) 2 63 := ⟨by decide +kernel, rfl⟩
theorem d24_63 : DAt B24 63 (.iload 6) 2 65 := ⟨by decide +kernel, rfl⟩
theorem d24_65 : DAt B24 65 (.aload_n 0) 1 66 := ⟨by decide +kernel, rfl⟩
theorem d24_66 : DAt B24 66 (.getfield 38) 3 69 := ⟨by decide +kernel, rfl⟩
theorem d24_69 : DAt B24 69 (.if_icmp .ge 45) 3 72 := ⟨by decide +kernel, rfl⟩
theorem d24_72 : DAt B24 72 (.iload 6) 2 74 := ⟨by decide +kernel, rfl⟩
theorem d24_74 : DAt B24 74 (.iload_n 2) 1 75 := ⟨by decide +kernel, rfl⟩
theorem d24_75 : DAt B24 75 (.if_icmp .eq 33) 3 78 := ⟨by decide +kernel, rfl⟩
theorem d24_78 : DAt B24 78 (.aload_n 0) 1 79 := ⟨by decide +kernel, rfl⟩
theorem d24_79 : DAt B24 79 (.getfield 23) 3 82 := ⟨by decide +kernel, rfl⟩
theorem d24_82 : DAt B24 82 (.iload 5) 2 84 := ⟨by decide +kernel, rfl⟩
theorem d24_84 : DAt B24 84 (.bipush 8) 2 86 := ⟨by decide +kernel, rfl⟩
theorem d24_86 : DAt B24 86 (.imul) 1 87 := ⟨by decide +kernel, rfl⟩
theorem d24_87 : DAt B24 87 (.iload 6) 2 89 := ⟨by decide +kernel, rfl⟩
theorem d24_89 : DAt B24 89 (.iadd) 1 90 := ⟨by decide +kernel, rfl⟩
theorem d24_90 : DAt B24 90 (.iaload) 1 91 := ⟨by decide +kernel, rfl⟩
theorem d24_91 : DAt B24 91 (.aload_n 0) 1 92 := ⟨by decide +kernel, rfl⟩
theorem d24_92 : DAt B24 92 (.getfield 17) 3 95 := ⟨by decide +kernel, rfl⟩
theorem d24_95 : DAt B24 95 (.iload_n 1) 1 96 := ⟨by decide +kernel, rfl⟩
theorem d24_96 : DAt B24 96 (.bipush 8) 2 98 := ⟨by decide +kernel, rfl⟩
theorem d24_98 : DAt B24 98 (.imul) 1 99 := ⟨by decide +kernel, rfl⟩
theorem d24_99 : DAt B24 99 (.iload 6) 2 101 := ⟨by decide +kernel, rfl⟩
theorem d24_101 : DAt B24 101 (.iadd) 1 102 := ⟨by decide +kernel, rfl⟩
theorem d24_102 : DAt B24 102 (.iaload) 1 103 := ⟨by decide +kernel, rfl⟩
theorem d24_103 : DAt B24 103 (.if_icmp .le 5) 3 106 := ⟨by decide +kernel, rfl⟩
theorem d24_106 : DAt B24 106 (.iconst 0) 1 107 := ⟨by decide +kernel, rfl⟩
theorem d24_107 : DAt B24 107 (.ireturn) 1 108 := ⟨by decide +kernel, rfl⟩
theorem d24_108 : DAt B24 108 (.iinc 6 1) 3 111 := ⟨by decide +kernel, rfl⟩
theorem d24_111 : DAt B24 111 (.goto (-48)) 3 114 := ⟨by decide +kernel, rfl⟩
theorem d24_114 : DAt B24 114 (.iconst 1) 1 115 := ⟨by decide +kernel, rfl⟩
theorem d24_115 : DAt B24 115 (.ireturn) 1 116 := ⟨by decide +kernel, rfl⟩
def B23 : Bdy := ((⟨"CausalStable", "cascade", "(I)I"⟩ : MethodName), prog_1_method_10_code, 8, (some .int), ({ frames := 2, cells := 0, slots := 0, locals := 33 } : Room))
theorem d23_0 : DAt B23 0 (.iconst 0) 1 1 := ⟨by decide +kernel, rfl⟩
theorem d23_1 : DAt B23 1 (.istore_n 2) 1 2 := ⟨by decide +kernel, rfl⟩
theorem d23_2 : DAt B23 2 (.iconst 0) 1 3 := ⟨by decide +kernel, rfl⟩
theorem d23_3 : DAt B23 3 (.istore_n 3) 1 4 := ⟨by decide +kernel, rfl⟩
theorem d23_4 : DAt B23 4 (.iload_n 3) 1 5 := ⟨by decide +kernel, rfl⟩
theorem d23_5 : DAt B23 5 (.bipush 65) 2 7 := ⟨by decide +kernel, rfl⟩
theorem d23_7 : DAt B23 7 (.if_icmp .ge 92) 3 10 := ⟨by decide +kernel, rfl⟩
theorem d23_10 : DAt B23 10 (.iconst (-1)) 1 11 := ⟨by decide +kernel, rfl⟩
theorem d23_11 : DAt B23 11 (.istore 4) 2 13 := ⟨by decide +kernel, rfl⟩
theorem d23_13 : DAt B23 13 (.iconst 0) 1 14 := ⟨by decide +kernel, rfl⟩
theorem d23_14 : DAt B23 14 (.istore 5) 2 16 := ⟨by decide +kernel, rfl⟩
theorem d23_16 : DAt B23 16 (.iconst 0) 1 17 := ⟨by decide +kernel, rfl⟩
theorem d23_17 : DAt B23 17 (.istore 6) 2 19 := ⟨by decide +kernel, rfl⟩
theorem d23_19 : DAt B23 19 (.iload 6) 2 21 := ⟨by decide +kernel, rfl⟩
theorem d23_21 : DAt B23 21 (.aload_n 0) 1 22 := ⟨by decide +kernel, rfl⟩
theorem d23_22 : DAt B23 22 (.getfield 38) 3 25 := ⟨by decide +kernel, rfl⟩
theorem d23_25 : DAt B23 25 (.if_icmp .ge 48) 3 28 := ⟨by decide +kernel, rfl⟩
theorem d23_28 : DAt B23 28 (.aload_n 0) 1 29 := ⟨by decide +kernel, rfl⟩
theorem d23_29 : DAt B23 29 (.getfield 17) 3 32 := ⟨by decide +kernel, rfl⟩
theorem d23_32 : DAt B23 32 (.iload_n 1) 1 33 := ⟨by decide +kernel, rfl⟩
theorem d23_33 : DAt B23 33 (.bipush 8) 2 35 := ⟨by decide +kernel, rfl⟩
theorem d23_35 : DAt B23 35 (.imul) 1 36 := ⟨by decide +kernel, rfl⟩
theorem d23_36 : DAt B23 36 (.iload 6) 2 38 := ⟨by decide +kernel, rfl⟩
theorem d23_38 : DAt B23 38 (.iadd) 1 39 := ⟨by decide +kernel, rfl⟩
theorem d23_39 : DAt B23 39 (.iaload) 1 40 := ⟨by decide +kernel, rfl⟩
theorem d23_40 : DAt B23 40 (.iconst 1) 1 41 := ⟨by decide +kernel, rfl⟩
theorem d23_41 : DAt B23 41 (.iadd) 1 42 := ⟨by decide +kernel, rfl⟩
theorem d23_42 : DAt B23 42 (.istore 7) 2 44 := ⟨by decide +kernel, rfl⟩
theorem d23_44 : DAt B23 44 (.aload_n 0) 1 45 := ⟨by decide +kernel, rfl⟩
theorem d23_45 : DAt B23 45 (.iload_n 1) 1 46 := ⟨by decide +kernel, rfl⟩
theorem d23_46 : DAt B23 46 (.iload 6) 2 48 := ⟨by decide +kernel, rfl⟩
theorem d23_48 : DAt B23 48 (.iload 7) 2 50 := ⟨by decide +kernel, rfl⟩
theorem d23_50 : DAt B23 50 (.invokevirtual 60) 3 53 := ⟨by decide +kernel, rfl⟩
theorem d23_53 : DAt B23 53 (.ifCond .eq 14) 3 56 := ⟨by decide +kernel, rfl⟩
theorem d23_56 : DAt B23 56 (.iload 6) 2 58 := ⟨by decide +kernel, rfl⟩
theorem d23_58 : DAt B23 58 (.istore 4) 2 60 := ⟨by decide +kernel, rfl⟩
theorem d23_60 : DAt B23 60 (.iload 7) 2 62 := ⟨by decide +kernel, rfl⟩
theorem d23_62 : DAt B23 62 (.istore 5) 2 64 := ⟨by decide +kernel, rfl⟩
theorem d23_64 : DAt B23 64 (.goto 9) 3 67 := ⟨by decide +kernel, rfl⟩
theorem d23_67 : DAt B23 67 (.iinc 6 1) 3 70 := ⟨by decide +kernel, rfl⟩
theorem d23_70 : DAt B23 70 (.goto (-51)) 3 73 := ⟨by decide +kernel, rfl⟩
theorem d23_73 : DAt B23 73 (.iload 4) 2 75 := ⟨by decide +kernel, rfl⟩
theorem d23_75 : DAt B23 75 (.ifCond .ge 6) 3 78 := ⟨by decide +kernel, rfl⟩
theorem d23_78 : DAt B23 78 (.goto 21) 3 81 := ⟨by decide +kernel, rfl⟩
theorem d23_81 : DAt B23 81 (.aload_n 0) 1 82 := ⟨by decide +kernel, rfl⟩
theorem d23_82 : DAt B23 82 (.iload_n 1) 1 83 := ⟨by decide +kernel, rfl⟩
theorem d23_83 : DAt B23 83 (.iload 4) 2 85 := ⟨by decide +kernel, rfl⟩
theorem d23_85 : DAt B23 85 (.iload 5) 2 87 := ⟨by decide +kernel, rfl⟩
theorem d23_87 : DAt B23 87 (.invokevirtual 64) 3 90 := ⟨by decide +kernel, rfl⟩
theorem d23_90 : DAt B23 90 (.iinc 2 1) 3 93 := ⟨by decide +kernel, rfl⟩
theorem d23_93 : DAt B23 93 (.iinc 3 1) 3 96 := ⟨by decide +kernel, rfl⟩
theorem d23_96 : DAt B23 96 (.goto (-92)) 3 99 := ⟨by decide +kernel, rfl⟩
theorem d23_99 : DAt B23 99 (.iload_n 2) 1 100 := ⟨by decide +kernel, rfl⟩
theorem d23_100 : DAt B23 100 (.ireturn) 1 101 := ⟨by decide +kernel, rfl⟩
def B22 : Bdy := ((⟨"CausalStable", "receive", "(III)I"⟩ : MethodName), prog_1_method_14_code, 6, (some .int), ({ frames := 3, cells := 0, slots := 0, locals := 52 } : Room))
theorem d22_0 : DAt B22 0 (.aload_n 0) 1 1 := ⟨by decide +kernel, rfl⟩
theorem d22_1 : DAt B22 1 (.iload_n 1) 1 2 := ⟨by decide +kernel, rfl⟩
theorem d22_2 : DAt B22 2 (.invokevirtual 68) 3 5 := ⟨by decide +kernel, rfl⟩
theorem d22_5 : DAt B22 5 (.ifCond .eq 12) 3 8 := ⟨by decide +kernel, rfl⟩
theorem d22_8 : DAt B22 8 (.aload_n 0) 1 9 := ⟨by decide +kernel, rfl⟩
theorem d22_9 : DAt B22 9 (.iload_n 2) 1 10 := ⟨by decide +kernel, rfl⟩
theorem d22_10 : DAt B22 10 (.iload_n 3) 1 11 := ⟨by decide +kernel, rfl⟩
theorem d22_11 : DAt B22 11 (.invokevirtual 52) 3 14 := ⟨by decide +kernel, rfl⟩
theorem d22_14 : DAt B22 14 (.ifCond .ne 5) 3 17 := ⟨by decide +kernel, rfl⟩
theorem d22_17 : DAt B22 17 (.iconst (-1)) 1 18 := ⟨by decide +kernel, rfl⟩
theorem d22_18 : DAt B22 18 (.ireturn) 1 19 := ⟨by decide +kernel, rfl⟩
theorem d22_19 : DAt B22 19 (.aload_n 0) 1 20 := ⟨by decide +kernel, rfl⟩
theorem d22_20 : DAt B22 20 (.getfield 13) 3 23 := ⟨by decide +kernel, rfl⟩
theorem d22_23 : DAt B22 23 (.iload_n 1) 1 24 := ⟨by decide +kernel, rfl⟩
theorem d22_24 : DAt B22 24 (.baload) 1 25 := ⟨by decide +kernel, rfl⟩
theorem d22_25 : DAt B22 25 (.ifCond .eq 6) 3 28 := ⟨by decide +kernel, rfl⟩
theorem d22_28 : DAt B22 28 (.bipush (-2)) 2 30 := ⟨by decide +kernel, rfl⟩
theorem d22_30 : DAt B22 30 (.ireturn) 1 31 := ⟨by decide +kernel, rfl⟩
theorem d22_31 : DAt B22 31 (.aload_n 0) 1 32 := ⟨by decide +kernel, rfl⟩
theorem d22_32 : DAt B22 32 (.iload_n 2) 1 33 := ⟨by decide +kernel, rfl⟩
theorem d22_33 : DAt B22 33 (.iload_n 3) 1 34 := ⟨by decide +kernel, rfl⟩
theorem d22_34 : DAt B22 34 (.iload_n 1) 1 35 := ⟨by decide +kernel, rfl⟩
theorem d22_35 : DAt B22 35 (.invokevirtual 72) 3 38 := ⟨by decide +kernel, rfl⟩
theorem d22_38 : DAt B22 38 (.istore 4) 2 40 := ⟨by decide +kernel, rfl⟩
theorem d22_40 : DAt B22 40 (.aload_n 0) 1 41 := ⟨by decide +kernel, rfl⟩
theorem d22_41 : DAt B22 41 (.getfield 26) 3 44 := ⟨by decide +kernel, rfl⟩
theorem d22_44 : DAt B22 44 (.iload 4) 2 46 := ⟨by decide +kernel, rfl⟩
theorem d22_46 : DAt B22 46 (.iaload) 1 47 := ⟨by decide +kernel, rfl⟩
theorem d22_47 : DAt B22 47 (.ifCond .ne 6) 3 50 := ⟨by decide +kernel, rfl⟩
theorem d22_50 : DAt B22 50 (.bipush (-4)) 2 52 := ⟨by decide +kernel, rfl⟩
theorem d22_52 : DAt B22 52 (.ireturn) 1 53 := ⟨by decide +kernel, rfl⟩
theorem d22_53 : DAt B22 53 (.aload_n 0) 1 54 := ⟨by decide +kernel, rfl⟩
theorem d22_54 : DAt B22 54 (.getfield 26) 3 57 := ⟨by decide +kernel, rfl⟩
theorem d22_57 : DAt B22 57 (.iload 4) 2 59 := ⟨by decide +kernel, rfl⟩
theorem d22_59 : DAt B22 59 (.aload_n 0) 1 60 := ⟨by decide +kernel, rfl⟩
theorem d22_60 : DAt B22 60 (.getfield 26) 3 63 := ⟨by decide +kernel, rfl⟩
theorem d22_63 : DAt B22 63 (.iload 4) 2 65 := ⟨by decide +kernel, rfl⟩
theorem d22_65 : DAt B22 65 (.iaload) 1 66 := ⟨by decide +kernel, rfl⟩
theorem d22_66 : DAt B22 66 (.iconst 1) 1 67 := ⟨by decide +kernel, rfl⟩
theorem d22_67 : DAt B22 67 (.isub) 1 68 := ⟨by decide +kernel, rfl⟩
theorem d22_68 : DAt B22 68 (.iastore) 1 69 := ⟨by decide +kernel, rfl⟩
theorem d22_69 : DAt B22 69 (.aload_n 0) 1 70 := ⟨by decide +kernel, rfl⟩
theorem d22_70 : DAt B22 70 (.iload_n 1) 1 71 := ⟨by decide +kernel, rfl⟩
theorem d22_71 : DAt B22 71 (.iload_n 2) 1 72 := ⟨by decide +kernel, rfl⟩
theorem d22_72 : DAt B22 72 (.iload_n 3) 1 73 := ⟨by decide +kernel, rfl⟩
theorem d22_73 : DAt B22 73 (.invokevirtual 45) 3 76 := ⟨by decide +kernel, rfl⟩
theorem d22_76 : DAt B22 76 (.istore 5) 2 78 := ⟨by decide +kernel, rfl⟩
theorem d22_78 : DAt B22 78 (.aload_n 0) 1 79 := ⟨by decide +kernel, rfl⟩
theorem d22_79 : DAt B22 79 (.getfield 20) 3 82 := ⟨by decide +kernel, rfl⟩
theorem d22_82 : DAt B22 82 (.iload 5) 2 84 := ⟨by decide +kernel, rfl⟩
theorem d22_84 : DAt B22 84 (.iaload) 1 85 := ⟨by decide +kernel, rfl⟩
theorem d22_85 : DAt B22 85 (.ifCond .eq 6) 3 88 := ⟨by decide +kernel, rfl⟩
theorem d22_88 : DAt B22 88 (.bipush (-5)) 2 90 := ⟨by decide +kernel, rfl⟩
theorem d22_90 : DAt B22 90 (.ireturn) 1 91 := ⟨by decide +kernel, rfl⟩
theorem d22_91 : DAt B22 91 (.aload_n 0) 1 92 := ⟨by decide +kernel, rfl⟩
theorem d22_92 : DAt B22 92 (.getfield 20) 3 95 := ⟨by decide +kernel, rfl⟩
theorem d22_95 : DAt B22 95 (.iload 5) 2 97 := ⟨by decide +kernel, rfl⟩
theorem d22_97 : DAt B22 97 (.iconst 1) 1 98 := ⟨by decide +kernel, rfl⟩
theorem d22_98 : DAt B22 98 (.iastore) 1 99 := ⟨by decide +kernel, rfl⟩
theorem d22_99 : DAt B22 99 (.aload_n 0) 1 100 := ⟨by decide +kernel, rfl⟩
theorem d22_100 : DAt B22 100 (.iload_n 1) 1 101 := ⟨by decide +kernel, rfl⟩
theorem d22_101 : DAt B22 101 (.invokevirtual 75) 3 104 := ⟨by decide +kernel, rfl⟩
theorem d22_104 : DAt B22 104 (.ireturn) 1 105 := ⟨by decide +kernel, rfl⟩
def B27 : Bdy := ((⟨"CausalStable", "duplicate", "(III)I"⟩ : MethodName), prog_1_method_15_code, 5, (some .int), ({ frames := 1, cells := 0, slots := 0, locals := 15 } : Room))
theorem d27_0 : DAt B27 0 (.aload_n 0) 1 1 := ⟨by decide +kernel, rfl⟩
theorem d27_1 : DAt B27 1 (.iload_n 1) 1 2 := ⟨by decide +kernel, rfl⟩
theorem d27_2 : DAt B27 2 (.iload_n 2) 1 3 := ⟨by decide +kernel, rfl⟩
theorem d27_3 : DAt B27 3 (.invokevirtual 52) 3 6 := ⟨by decide +kernel, rfl⟩
theorem d27_6 : DAt B27 6 (.ifCond .eq 11) 3 9 := ⟨by decide +kernel, rfl⟩
theorem d27_9 : DAt B27 9 (.aload_n 0) 1 10 := ⟨by decide +kernel, rfl⟩
theorem d27_10 : DAt B27 10 (.iload_n 3) 1 11 := ⟨by decide +kernel, rfl⟩
theorem d27_11 : DAt B27 11 (.invokevirtual 68) 3 14 := ⟨by decide +kernel, rfl⟩
theorem d27_14 : DAt B27 14 (.ifCond .ne 5) 3 17 := ⟨by decide +kernel, rfl⟩
theorem d27_17 : DAt B27 17 (.iconst (-1)) 1 18 := ⟨by decide +kernel, rfl⟩
theorem d27_18 : DAt B27 18 (.ireturn) 1 19 := ⟨by decide +kernel, rfl⟩
theorem d27_19 : DAt B27 19 (.aload_n 0) 1 20 := ⟨by decide +kernel, rfl⟩
theorem d27_20 : DAt B27 20 (.iload_n 1) 1 21 := ⟨by decide +kernel, rfl⟩
theorem d27_21 : DAt B27 21 (.iload_n 2) 1 22 := ⟨by decide +kernel, rfl⟩
theorem d27_22 : DAt B27 22 (.iload_n 3) 1 23 := ⟨by decide +kernel, rfl⟩
theorem d27_23 : DAt B27 23 (.invokevirtual 72) 3 26 := ⟨by decide +kernel, rfl⟩
theorem d27_26 : DAt B27 26 (.istore 4) 2 28 := ⟨by decide +kernel, rfl⟩
theorem d27_28 : DAt B27 28 (.aload_n 0) 1 29 := ⟨by decide +kernel, rfl⟩
theorem d27_29 : DAt B27 29 (.getfield 26) 3 32 := ⟨by decide +kernel, rfl⟩
theorem d27_32 : DAt B27 32 (.iload 4) 2 34 := ⟨by decide +kernel, rfl⟩
theorem d27_34 : DAt B27 34 (.iaload) 1 35 := ⟨by decide +kernel, rfl⟩
theorem d27_35 : DAt B27 35 (.ifCond .ne 6) 3 38 := ⟨by decide +kernel, rfl⟩
theorem d27_38 : DAt B27 38 (.bipush (-4)) 2 40 := ⟨by decide +kernel, rfl⟩
theorem d27_40 : DAt B27 40 (.ireturn) 1 41 := ⟨by decide +kernel, rfl⟩
theorem d27_41 : DAt B27 41 (.aload_n 0) 1 42 := ⟨by decide +kernel, rfl⟩
theorem d27_42 : DAt B27 42 (.getfield 26) 3 45 := ⟨by decide +kernel, rfl⟩
theorem d27_45 : DAt B27 45 (.iload 4) 2 47 := ⟨by decide +kernel, rfl⟩
theorem d27_47 : DAt B27 47 (.iaload) 1 48 := ⟨by decide +kernel, rfl⟩
theorem d27_48 : DAt B27 48 (.iconst 3) 1 49 := ⟨by decide +kernel, rfl⟩
theorem d27_49 : DAt B27 49 (.if_icmp .lt 6) 3 52 := ⟨by decide +kernel, rfl⟩
theorem d27_52 : DAt B27 52 (.bipush (-3)) 2 54 := ⟨by decide +kernel, rfl⟩
theorem d27_54 : DAt B27 54 (.ireturn) 1 55 := ⟨by decide +kernel, rfl⟩
theorem d27_55 : DAt B27 55 (.aload_n 0) 1 56 := ⟨by decide +kernel, rfl⟩
theorem d27_56 : DAt B27 56 (.getfield 26) 3 59 := ⟨by decide +kernel, rfl⟩
theorem d27_59 : DAt B27 59 (.iload 4) 2 61 := ⟨by decide +kernel, rfl⟩
theorem d27_61 : DAt B27 61 (.aload_n 0) 1 62 := ⟨by decide +kernel, rfl⟩
theorem d27_62 : DAt B27 62 (.getfield 26) 3 65 := ⟨by decide +kernel, rfl⟩
theorem d27_65 : DAt B27 65 (.iload 4) 2 67 := ⟨by decide +kernel, rfl⟩
theorem d27_67 : DAt B27 67 (.iaload) 1 68 := ⟨by decide +kernel, rfl⟩
theorem d27_68 : DAt B27 68 (.iconst 1) 1 69 := ⟨by decide +kernel, rfl⟩
theorem d27_69 : DAt B27 69 (.iadd) 1 70 := ⟨by decide +kernel, rfl⟩
theorem d27_70 : DAt B27 70 (.iastore) 1 71 := ⟨by decide +kernel, rfl⟩
theorem d27_71 : DAt B27 71 (.aload_n 0) 1 72 := ⟨by decide +kernel, rfl⟩
theorem d27_72 : DAt B27 72 (.getfield 26) 3 75 := ⟨by decide +kernel, rfl⟩
theorem d27_75 : DAt B27 75 (.iload 4) 2 77 := ⟨by decide +kernel, rfl⟩
theorem d27_77 : DAt B27 77 (.iaload) 1 78 := ⟨by decide +kernel, rfl⟩
theorem d27_78 : DAt B27 78 (.ireturn) 1 79 := ⟨by decide +kernel, rfl⟩
def B25 : Bdy := ((⟨"CausalStable", "drop", "(III)I"⟩ : MethodName), prog_1_method_16_code, 5, (some .int), ({ frames := 1, cells := 0, slots := 0, locals := 15 } : Room))
theorem d25_0 : DAt B25 0 (.aload_n 0) 1 1 := ⟨by decide +kernel, rfl⟩
theorem d25_1 : DAt B25 1 (.iload_n 1) 1 2 := ⟨by decide +kernel, rfl⟩
theorem d25_2 : DAt B25 2 (.iload_n 2) 1 3 := ⟨by decide +kernel, rfl⟩
theorem d25_3 : DAt B25 3 (.invokevirtual 52) 3 6 := ⟨by decide +kernel, rfl⟩
theorem d25_6 : DAt B25 6 (.ifCond .eq 11) 3 9 := ⟨by decide +kernel, rfl⟩
theorem d25_9 : DAt B25 9 (.aload_n 0) 1 10 := ⟨by decide +kernel, rfl⟩
theorem d25_10 : DAt B25 10 (.iload_n 3) 1 11 := ⟨by decide +kernel, rfl⟩
theorem d25_11 : DAt B25 11 (.invokevirtual 68) 3 14 := ⟨by decide +kernel, rfl⟩
theorem d25_14 : DAt B25 14 (.ifCond .ne 5) 3 17 := ⟨by decide +kernel, rfl⟩
theorem d25_17 : DAt B25 17 (.iconst (-1)) 1 18 := ⟨by decide +kernel, rfl⟩
theorem d25_18 : DAt B25 18 (.ireturn) 1 19 := ⟨by decide +kernel, rfl⟩
theorem d25_19 : DAt B25 19 (.aload_n 0) 1 20 := ⟨by decide +kernel, rfl⟩
theorem d25_20 : DAt B25 20 (.iload_n 1) 1 21 := ⟨by decide +kernel, rfl⟩
theorem d25_21 : DAt B25 21 (.iload_n 2) 1 22 := ⟨by decide +kernel, rfl⟩
theorem d25_22 : DAt B25 22 (.iload_n 3) 1 23 := ⟨by decide +kernel, rfl⟩
theorem d25_23 : DAt B25 23 (.invokevirtual 72) 3 26 := ⟨by decide +kernel, rfl⟩
theorem d25_26 : DAt B25 26 (.istore 4) 2 28 := ⟨by decide +kernel, rfl⟩
theorem d25_28 : DAt B25 28 (.aload_n 0) 1 29 := ⟨by decide +kernel, rfl⟩
theorem d25_29 : DAt B25 29 (.getfield 26) 3 32 := ⟨by decide +kernel, rfl⟩
theorem d25_32 : DAt B25 32 (.iload 4) 2 34 := ⟨by decide +kernel, rfl⟩
theorem d25_34 : DAt B25 34 (.iaload) 1 35 := ⟨by decide +kernel, rfl⟩
theorem d25_35 : DAt B25 35 (.ifCond .ne 6) 3 38 := ⟨by decide +kernel, rfl⟩
theorem d25_38 : DAt B25 38 (.bipush (-4)) 2 40 := ⟨by decide +kernel, rfl⟩
theorem d25_40 : DAt B25 40 (.ireturn) 1 41 := ⟨by decide +kernel, rfl⟩
theorem d25_41 : DAt B25 41 (.aload_n 0) 1 42 := ⟨by decide +kernel, rfl⟩
theorem d25_42 : DAt B25 42 (.getfield 26) 3 45 := ⟨by decide +kernel, rfl⟩
theorem d25_45 : DAt B25 45 (.iload 4) 2 47 := ⟨by decide +kernel, rfl⟩
theorem d25_47 : DAt B25 47 (.aload_n 0) 1 48 := ⟨by decide +kernel, rfl⟩
theorem d25_48 : DAt B25 48 (.getfield 26) 3 51 := ⟨by decide +kernel, rfl⟩
theorem d25_51 : DAt B25 51 (.iload 4) 2 53 := ⟨by decide +kernel, rfl⟩
theorem d25_53 : DAt B25 53 (.iaload) 1 54 := ⟨by decide +kernel, rfl⟩
theorem d25_54 : DAt B25 54 (.iconst 1) 1 55 := ⟨by decide +kernel, rfl⟩
theorem d25_55 : DAt B25 55 (.isub) 1 56 := ⟨by decide +kernel, rfl⟩
theorem d25_56 : DAt B25 56 (.iastore) 1 57 := ⟨by decide +kernel, rfl⟩
theorem d25_57 : DAt B25 57 (.aload_n 0) 1 58 := ⟨by decide +kernel, rfl⟩
theorem d25_58 : DAt B25 58 (.getfield 26) 3 61 := ⟨by decide +kernel, rfl⟩
theorem d25_61 : DAt B25 61 (.iload 4) 2 63 := ⟨by decide +kernel, rfl⟩
theorem d25_63 : DAt B25 63 (.iaload) 1 64 := ⟨by decide +kernel, rfl⟩
theorem d25_64 : DAt B25 64 (.ireturn) 1 65 := ⟨by decide +kernel, rfl⟩
def B28 : Bdy := ((⟨"CausalStable", "retransmit", "(IIII)I"⟩ : MethodName), prog_1_method_17_code, 7, (some .int), ({ frames := 1, cells := 0, slots := 0, locals := 15 } : Room))
theorem d28_0 : DAt B28 0 (.aload_n 0) 1 1 := ⟨by decide +kernel, rfl⟩
theorem d28_1 : DAt B28 1 (.iload_n 1) 1 2 := ⟨by decide +kernel, rfl⟩
theorem d28_2 : DAt B28 2 (.invokevirtual 68) 3 5 := ⟨by decide +kernel, rfl⟩
theorem d28_5 : DAt B28 5 (.ifCond .eq 26) 3 8 := ⟨by decide +kernel, rfl⟩
theorem d28_8 : DAt B28 8 (.aload_n 0) 1 9 := ⟨by decide +kernel, rfl⟩
theorem d28_9 : DAt B28 9 (.iload_n 2) 1 10 := ⟨by decide +kernel, rfl⟩
theorem d28_10 : DAt B28 10 (.invokevirtual 68) 3 13 := ⟨by decide +kernel, rfl⟩
theorem d28_13 : DAt B28 13 (.ifCond .eq 18) 3 16 := ⟨by decide +kernel, rfl⟩
theorem d28_16 : DAt B28 16 (.iload_n 1) 1 17 := ⟨by decide +kernel, rfl⟩
theorem d28_17 : DAt B28 17 (.iload_n 2) 1 18 := ⟨by decide +kernel, rfl⟩
theorem d28_18 : DAt B28 18 (.if_icmp .eq 13) 3 21 := ⟨by decide +kernel, rfl⟩
theorem d28_21 : DAt B28 21 (.aload_n 0) 1 22 := ⟨by decide +kernel, rfl⟩
theorem d28_22 : DAt B28 22 (.iload_n 3) 1 23 := ⟨by decide +kernel, rfl⟩
theorem d28_23 : DAt B28 23 (.iload 4) 2 25 := ⟨by decide +kernel, rfl⟩
theorem d28_25 : DAt B28 25 (.invokevirtual 52) 3 28 := ⟨by decide +kernel, rfl⟩
theorem d28_28 : DAt B28 28 (.ifCond .ne 5) 3 31 := ⟨by decide +kernel, rfl⟩
theorem d28_31 : DAt B28 31 (.iconst (-1)) 1 32 := ⟨by decide +kernel, rfl⟩
theorem d28_32 : DAt B28 32 (.ireturn) 1 33 := ⟨by decide +kernel, rfl⟩
theorem d28_33 : DAt B28 33 (.aload_n 0) 1 34 := ⟨by decide +kernel, rfl⟩
theorem d28_34 : DAt B28 34 (.getfield 13) 3 37 := ⟨by decide +kernel, rfl⟩
theorem d28_37 : DAt B28 37 (.iload_n 1) 1 38 := ⟨by decide +kernel, rfl⟩
theorem d28_38 : DAt B28 38 (.baload) 1 39 := ⟨by decide +kernel, rfl⟩
theorem d28_39 : DAt B28 39 (.ifCond .ne 12) 3 42 := ⟨by decide +kernel, rfl⟩
theorem d28_42 : DAt B28 42 (.aload_n 0) 1 43 := ⟨by decide +kernel, rfl⟩
theorem d28_43 : DAt B28 43 (.getfield 13) 3 46 := ⟨by decide +kernel, rfl⟩
theorem d28_46 : DAt B28 46 (.iload_n 2) 1 47 := ⟨by decide +kernel, rfl⟩
theorem d28_47 : DAt B28 47 (.baload) 1 48 := ⟨by decide +kernel, rfl⟩
theorem d28_48 : DAt B28 48 (.ifCond .eq 6) 3 51 := ⟨by decide +kernel, rfl⟩
theorem d28_51 : DAt B28 51 (.bipush (-2)) 2 53 := ⟨by decide +kernel, rfl⟩
theorem d28_53 : DAt B28 53 (.ireturn) 1 54 := ⟨by decide +kernel, rfl⟩
theorem d28_54 : DAt B28 54 (.aload_n 0) 1 55 := ⟨by decide +kernel, rfl⟩
theorem d28_55 : DAt B28 55 (.iload_n 1) 1 56 := ⟨by decide +kernel, rfl⟩
theorem d28_56 : DAt B28 56 (.iload_n 3) 1 57 := ⟨by decide +kernel, rfl⟩
theorem d28_57 : DAt B28 57 (.iload 4) 2 59 := ⟨by decide +kernel, rfl⟩
theorem d28_59 : DAt B28 59 (.invokevirtual 45) 3 62 := ⟨by decide +kernel, rfl⟩
theorem d28_62 : DAt B28 62 (.istore 5) 2 64 := ⟨by decide +kernel, rfl⟩
theorem d28_64 : DAt B28 64 (.aload_n 0) 1 65 := ⟨by decide +kernel, rfl⟩
theorem d28_65 : DAt B28 65 (.getfield 20) 3 68 := ⟨by decide +kernel, rfl⟩
theorem d28_68 : DAt B28 68 (.iload 5) 2 70 := ⟨by decide +kernel, rfl⟩
theorem d28_70 : DAt B28 70 (.iaload) 1 71 := ⟨by decide +kernel, rfl⟩
theorem d28_71 : DAt B28 71 (.iconst 2) 1 72 := ⟨by decide +kernel, rfl⟩
theorem d28_72 : DAt B28 72 (.if_icmp .eq 6) 3 75 := ⟨by decide +kernel, rfl⟩
theorem d28_75 : DAt B28 75 (.bipush (-6)) 2 77 := ⟨by decide +kernel, rfl⟩
theorem d28_77 : DAt B28 77 (.ireturn) 1 78 := ⟨by decide +kernel, rfl⟩
theorem d28_78 : DAt B28 78 (.aload_n 0) 1 79 := ⟨by decide +kernel, rfl⟩
theorem d28_79 : DAt B28 79 (.iload_n 3) 1 80 := ⟨by decide +kernel, rfl⟩
theorem d28_80 : DAt B28 80 (.iload 4) 2 82 := ⟨by decide +kernel, rfl⟩
theorem d28_82 : DAt B28 82 (.iload_n 2) 1 83 := ⟨by decide +kernel, rfl⟩
theorem d28_83 : DAt B28 83 (.invokevirtual 72) 3 86 := ⟨by decide +kernel, rfl⟩
theorem d28_86 : DAt B28 86 (.istore 6) 2 88 := ⟨by decide +kernel, rfl⟩
theorem d28_88 : DAt B28 88 (.aload_n 0) 1 89 := ⟨by decide +kernel, rfl⟩
theorem d28_89 : DAt B28 89 (.getfield 26) 3 92 := ⟨by decide +kernel, rfl⟩
theorem d28_92 : DAt B28 92 (.iload 6) 2 94 := ⟨by decide +kernel, rfl⟩
theorem d28_94 : DAt B28 94 (.iaload) 1 95 := ⟨by decide +kernel, rfl⟩
theorem d28_95 : DAt B28 95 (.iconst 3) 1 96 := ⟨by decide +kernel, rfl⟩
theorem d28_96 : DAt B28 96 (.if_icmp .lt 6) 3 99 := ⟨by decide +kernel, rfl⟩
theorem d28_99 : DAt B28 99 (.bipush (-3)) 2 101 := ⟨by decide +kernel, rfl⟩
theorem d28_101 : DAt B28 101 (.ireturn) 1 102 := ⟨by decide +kernel, rfl⟩
theorem d28_102 : DAt B28 102 (.aload_n 0) 1 103 := ⟨by decide +kernel, rfl⟩
theorem d28_103 : DAt B28 103 (.getfield 26) 3 106 := ⟨by decide +kernel, rfl⟩
theorem d28_106 : DAt B28 106 (.iload 6) 2 108 := ⟨by decide +kernel, rfl⟩
theorem d28_108 : DAt B28 108 (.aload_n 0) 1 109 := ⟨by decide +kernel, rfl⟩
theorem d28_109 : DAt B28 109 (.getfield 26) 3 112 := ⟨by decide +kernel, rfl⟩
theorem d28_112 : DAt B28 112 (.iload 6) 2 114 := ⟨by decide +kernel, rfl⟩
theorem d28_114 : DAt B28 114 (.iaload) 1 115 := ⟨by decide +kernel, rfl⟩
theorem d28_115 : DAt B28 115 (.iconst 1) 1 116 := ⟨by decide +kernel, rfl⟩
theorem d28_116 : DAt B28 116 (.iadd) 1 117 := ⟨by decide +kernel, rfl⟩
theorem d28_117 : DAt B28 117 (.iastore) 1 118 := ⟨by decide +kernel, rfl⟩
theorem d28_118 : DAt B28 118 (.iconst 0) 1 119 := ⟨by decide +kernel, rfl⟩
theorem d28_119 : DAt B28 119 (.ireturn) 1 120 := ⟨by decide +kernel, rfl⟩
def B26 : Bdy := ((⟨"CausalStable", "gossip", "(II)I"⟩ : MethodName), prog_1_method_18_code, 7, (some .int), ({ frames := 1, cells := 0, slots := 0, locals := 13 } : Room))
theorem d26_0 : DAt B26 0 (.aload_n 0) 1 1 := ⟨by decide +kernel, rfl⟩
theorem d26_1 : DAt B26 1 (.iload_n 1) 1 2 := ⟨by decide +kernel, rfl⟩
theorem d26_2 : DAt B26 2 (.invokevirtual 68) 3 5 := ⟨by decide +kernel, rfl⟩
theorem d26_5 : DAt B26 5 (.ifCond .eq 16) 3 8 := ⟨by decide +kernel, rfl⟩
theorem d26_8 : DAt B26 8 (.aload_n 0) 1 9 := ⟨by decide +kernel, rfl⟩
theorem d26_9 : DAt B26 9 (.iload_n 2) 1 10 := ⟨by decide +kernel, rfl⟩
theorem d26_10 : DAt B26 10 (.invokevirtual 68) 3 13 := ⟨by decide +kernel, rfl⟩
theorem d26_13 : DAt B26 13 (.ifCond .eq 8) 3 16 := ⟨by decide +kernel, rfl⟩
theorem d26_16 : DAt B26 16 (.iload_n 1) 1 17 := ⟨by decide +kernel, rfl⟩
theorem d26_17 : DAt B26 17 (.iload_n 2) 1 18 := ⟨by decide +kernel, rfl⟩
theorem d26_18 : DAt B26 18 (.if_icmp .ne 5) 3 21 := ⟨by decide +kernel, rfl⟩
theorem d26_21 : DAt B26 21 (.iconst (-1)) 1 22 := ⟨by decide +kernel, rfl⟩
theorem d26_22 : DAt B26 22 (.ireturn) 1 23 := ⟨by decide +kernel, rfl⟩
theorem d26_23 : DAt B26 23 (.aload_n 0) 1 24 := ⟨by decide +kernel, rfl⟩
theorem d26_24 : DAt B26 24 (.getfield 13) 3 27 := ⟨by decide +kernel, rfl⟩
theorem d26_27 : DAt B26 27 (.iload_n 1) 1 28 := ⟨by decide +kernel, rfl⟩
theorem d26_28 : DAt B26 28 (.baload) 1 29 := ⟨by decide +kernel, rfl⟩
theorem d26_29 : DAt B26 29 (.ifCond .ne 12) 3 32 := ⟨by decide +kernel, rfl⟩
theorem d26_32 : DAt B26 32 (.aload_n 0) 1 33 := ⟨by decide +kernel, rfl⟩
theorem d26_33 : DAt B26 33 (.getfield 13) 3 36 := ⟨by decide +kernel, rfl⟩
theorem d26_36 : DAt B26 36 (.iload_n 2) 1 37 := ⟨by decide +kernel, rfl⟩
theorem d26_37 : DAt B26 37 (.baload) 1 38 := ⟨by decide +kernel, rfl⟩
theorem d26_38 : DAt B26 38 (.ifCond .eq 6) 3 41 := ⟨by decide +kernel, rfl⟩
theorem d26_41 : DAt B26 41 (.bipush (-2)) 2 43 := ⟨by decide +kernel, rfl⟩
theorem d26_43 : DAt B26 43 (.ireturn) 1 44 := ⟨by decide +kernel, rfl⟩
theorem d26_44 : DAt B26 44 (.iconst 0) 1 45 := ⟨by decide +kernel, rfl⟩
theorem d26_45 : DAt B26 45 (.istore_n 3) 1 46 := ⟨by decide +kernel, rfl⟩
theorem d26_46 : DAt B26 46 (.iload_n 3) 1 47 := ⟨by decide +kernel, rfl⟩
theorem d26_47 : DAt B26 47 (.aload_n 0) 1 48 := ⟨by decide +kernel, rfl⟩
theorem d26_48 : DAt B26 48 (.getfield 38) 3 51 := ⟨by decide +kernel, rfl⟩
theorem d26_51 : DAt B26 51 (.if_icmp .ge 86) 3 54 := ⟨by decide +kernel, rfl⟩
theorem d26_54 : DAt B26 54 (.iconst 0) 1 55 := ⟨by decide +kernel, rfl⟩
theorem d26_55 : DAt B26 55 (.istore 4) 2 57 := ⟨by decide +kernel, rfl⟩
theorem d26_57 : DAt B26 57 (.iload 4) 2 59 := ⟨by decide +kernel, rfl⟩
theorem d26_59 : DAt B26 59 (.aload_n 0) 1 60 := ⟨by decide +kernel, rfl⟩
theorem d26_60 : DAt B26 60 (.getfield 38) 3 63 := ⟨by decide +kernel, rfl⟩
theorem d26_63 : DAt B26 63 (.if_icmp .ge 68) 3 66 := ⟨by decide +kernel, rfl⟩
theorem d26_66 : DAt B26 66 (.iload_n 2) 1 67 := ⟨by decide +kernel, rfl⟩
theorem d26_67 : DAt B26 67 (.bipush 64) 2 69 := ⟨by decide +kernel, rfl⟩
theorem d26_69 : DAt B26 69 (.imul) 1 70 := ⟨by decide +kernel, rfl⟩
theorem d26_70 : DAt B26 70 (.iload_n 3) 1 71 := ⟨by decide +kernel, rfl⟩
theorem d26_71 : DAt B26 71 (.bipush 8) 2 73 := ⟨by decide +kernel, rfl⟩
theorem d26_73 : DAt B26 73 (.imul) 1 74 := ⟨by decide +kernel, rfl⟩
theorem d26_74 : DAt B26 74 (.iadd) 1 75 := ⟨by decide +kernel, rfl⟩
theorem d26_75 : DAt B26 75 (.iload 4) 2 77 := ⟨by decide +kernel, rfl⟩
theorem d26_77 : DAt B26 77 (.iadd) 1 78 := ⟨by decide +kernel, rfl⟩
theorem d26_78 : DAt B26 78 (.istore 5) 2 80 := ⟨by decide +kernel, rfl⟩
theorem d26_80 : DAt B26 80 (.iload_n 1) 1 81 := ⟨by decide +kernel, rfl⟩
theorem d26_81 : DAt B26 81 (.bipush 64) 2 83 := ⟨by decide +kernel, rfl⟩
theorem d26_83 : DAt B26 83 (.imul) 1 84 := ⟨by decide +kernel, rfl⟩
theorem d26_84 : DAt B26 84 (.iload_n 3) 1 85 := ⟨by decide +kernel, rfl⟩
theorem d26_85 : DAt B26 85 (.bipush 8) 2 87 := ⟨by decide +kernel, rfl⟩
theorem d26_87 : DAt B26 87 (.imul) 1 88 := ⟨by decide +kernel, rfl⟩
theorem d26_88 : DAt B26 88 (.iadd) 1 89 := ⟨by decide +kernel, rfl⟩
theorem d26_89 : DAt B26 89 (.iload 4) 2 91 := ⟨by decide +kernel, rfl⟩
theorem d26_91 : DAt B26 91 (.iadd) 1 92 := ⟨by decide +kernel, rfl⟩
theorem d26_92 : DAt B26 92 (.istore 6) 2 94 := ⟨by decide +kernel, rfl⟩
theorem d26_94 : DAt B26 94 (.aload_n 0) 1 95 := ⟨by decide +kernel, rfl⟩
theorem d26_95 : DAt B26 95 (.getfield 29) 3 98 := ⟨by decide +kernel, rfl⟩
theorem d26_98 : DAt B26 98 (.iload 6) 2 100 := ⟨by decide +kernel, rfl⟩
theorem d26_100 : DAt B26 100 (.iaload) 1 101 := ⟨by decide +kernel, rfl⟩
theorem d26_101 : DAt B26 101 (.aload_n 0) 1 102 := ⟨by decide +kernel, rfl⟩
theorem d26_102 : DAt B26 102 (.getfield 29) 3 105 := ⟨by decide +kernel, rfl⟩
theorem d26_105 : DAt B26 105 (.iload 5) 2 107 := ⟨by decide +kernel, rfl⟩
theorem d26_107 : DAt B26 107 (.iaload) 1 108 := ⟨by decide +kernel, rfl⟩
theorem d26_108 : DAt B26 108 (.if_icmp .le 17) 3 111 := ⟨by decide +kernel, rfl⟩
theorem d26_111 : DAt B26 111 (.aload_n 0) 1 112 := ⟨by decide +kernel, rfl⟩
theorem d26_112 : DAt B26 112 (.getfield 29) 3 115 := ⟨by decide +kernel, rfl⟩
theorem d26_115 : DAt B26 115 (.iload 5) 2 117 := ⟨by decide +kernel, rfl⟩
theorem d26_117 : DAt B26 117 (.aload_n 0) 1 118 := ⟨by decide +kernel, rfl⟩
theorem d26_118 : DAt B26 118 (.getfield 29) 3 121 := ⟨by decide +kernel, rfl⟩
theorem d26_121 : DAt B26 121 (.iload 6) 2 123 := ⟨by decide +kernel, rfl⟩
theorem d26_123 : DAt B26 123 (.iaload) 1 124 := ⟨by decide +kernel, rfl⟩
theorem d26_124 : DAt B26 124 (.iastore) 1 125 := ⟨by decide +kernel, rfl⟩
theorem d26_125 : DAt B26 125 (.iinc 4 1) 3 128 := ⟨by decide +kernel, rfl⟩
theorem d26_128 : DAt B26 128 (.goto (-71)) 3 131 := ⟨by decide +kernel, rfl⟩
theorem d26_131 : DAt B26 131 (.iinc 3 1) 3 134 := ⟨by decide +kernel, rfl⟩
theorem d26_134 : DAt B26 134 (.goto (-88)) 3 137 := ⟨by decide +kernel, rfl⟩
theorem d26_137 : DAt B26 137 (.iconst 0) 1 138 := ⟨by decide +kernel, rfl⟩
theorem d26_138 : DAt B26 138 (.ireturn) 1 139 := ⟨by decide +kernel, rfl⟩
def B30 : Bdy := ((⟨"CausalStable", "isStable", "(III)Z"⟩ : MethodName), prog_1_method_11_code, 6, (some .boolean), ({ frames := 1, cells := 0, slots := 0, locals := 15 } : Room))
theorem d30_0 : DAt B30 0 (.iconst 0) 1 1 := ⟨by decide +kernel, rfl⟩
theorem d30_1 : DAt B30 1 (.istore 4) 2 3 := ⟨by decide +kernel, rfl⟩
theorem d30_3 : DAt B30 3 (.iload 4) 2 5 := ⟨by decide +kernel, rfl⟩
theorem d30_5 : DAt B30 5 (.aload_n 0) 1 6 := ⟨by decide +kernel, rfl⟩
theorem d30_6 : DAt B30 6 (.getfield 38) 3 9 := ⟨by decide +kernel, rfl⟩
theorem d30_9 : DAt B30 9 (.if_icmp .ge 42) 3 12 := ⟨by decide +kernel, rfl⟩
theorem d30_12 : DAt B30 12 (.aload_n 0) 1 13 := ⟨by decide +kernel, rfl⟩
theorem d30_13 : DAt B30 13 (.getfield 13) 3 16 := ⟨by decide +kernel, rfl⟩
theorem d30_16 : DAt B30 16 (.iload 4) 2 18 := ⟨by decide +kernel, rfl⟩
theorem d30_18 : DAt B30 18 (.baload) 1 19 := ⟨by decide +kernel, rfl⟩
theorem d30_19 : DAt B30 19 (.ifCond .ne 26) 3 22 := ⟨by decide +kernel, rfl⟩
theorem d30_22 : DAt B30 22 (.aload_n 0) 1 23 := ⟨by decide +kernel, rfl⟩
theorem d30_23 : DAt B30 23 (.iload_n 1) 1 24 := ⟨by decide +kernel, rfl⟩
theorem d30_24 : DAt B30 24 (.iload 4) 2 26 := ⟨by decide +kernel, rfl⟩
theorem d30_26 : DAt B30 26 (.iload_n 2) 1 27 := ⟨by decide +kernel, rfl⟩
theorem d30_27 : DAt B30 27 (.invokevirtual 49) 3 30 := ⟨by decide +kernel, rfl⟩
theorem d30_30 : DAt B30 30 (.istore 5) 2 32 := ⟨by decide +kernel, rfl⟩
theorem d30_32 : DAt B30 32 (.aload_n 0) 1 33 := ⟨by decide +kernel, rfl⟩
theorem d30_33 : DAt B30 33 (.getfield 29) 3 36 := ⟨by decide +kernel, rfl⟩
theorem d30_36 : DAt B30 36 (.iload 5) 2 38 := ⟨by decide +kernel, rfl⟩
theorem d30_38 : DAt B30 38 (.iaload) 1 39 := ⟨by decide +kernel, rfl⟩
theorem d30_39 : DAt B30 39 (.iload_n 3) 1 40 := ⟨by decide +kernel, rfl⟩
theorem d30_40 : DAt B30 40 (.if_icmp .ge 5) 3 43 := ⟨by decide +kernel, rfl⟩
theorem d30_43 : DAt B30 43 (.iconst 0) 1 44 := ⟨by decide +kernel, rfl⟩
theorem d30_44 : DAt B30 44 (.ireturn) 1 45 := ⟨by decide +kernel, rfl⟩
theorem d30_45 : DAt B30 45 (.iinc 4 1) 3 48 := ⟨by decide +kernel, rfl⟩
theorem d30_48 : DAt B30 48 (.goto (-45)) 3 51 := ⟨by decide +kernel, rfl⟩
theorem d30_51 : DAt B30 51 (.iconst 1) 1 52 := ⟨by decide +kernel, rfl⟩
theorem d30_52 : DAt B30 52 (.ireturn) 1 53 := ⟨by decide +kernel, rfl⟩
def B29 : Bdy := ((⟨"CausalStable", "prune", "(I)I"⟩ : MethodName), prog_1_method_19_code, 7, (some .int), ({ frames := 2, cells := 0, slots := 0, locals := 32 } : Room))
theorem d29_0 : DAt B29 0 (.aload_n 0) 1 1 := ⟨by decide +kernel, rfl⟩
theorem d29_1 : DAt B29 1 (.iload_n 1) 1 2 := ⟨by decide +kernel, rfl⟩
theorem d29_2 : DAt B29 2 (.invokevirtual 68) 3 5 := ⟨by decide +kernel, rfl⟩
theorem d29_5 : DAt B29 5 (.ifCond .ne 5) 3 8 := ⟨by decide +kernel, rfl⟩
theorem d29_8 : DAt B29 8 (.iconst (-1)) 1 9 := ⟨by decide +kernel, rfl⟩
theorem d29_9 : DAt B29 9 (.ireturn) 1 10 := ⟨by decide +kernel, rfl⟩
theorem d29_10 : DAt B29 10 (.aload_n 0) 1 11 := ⟨by decide +kernel, rfl⟩
theorem d29_11 : DAt B29 11 (.getfield 13) 3 14 := ⟨by decide +kernel, rfl⟩
theorem d29_14 : DAt B29 14 (.iload_n 1) 1 15 := ⟨by decide +kernel, rfl⟩
theorem d29_15 : DAt B29 15 (.baload) 1 16 := ⟨by decide +kernel, rfl⟩
theorem d29_16 : DAt B29 16 (.ifCond .eq 6) 3 19 := ⟨by decide +kernel, rfl⟩
theorem d29_19 : DAt B29 19 (.bipush (-2)) 2 21 := ⟨by decide +kernel, rfl⟩
theorem d29_21 : DAt B29 21 (.ireturn) 1 22 := ⟨by decide +kernel, rfl⟩
theorem d29_22 : DAt B29 22 (.iconst 0) 1 23 := ⟨by decide +kernel, rfl⟩
theorem d29_23 : DAt B29 23 (.istore_n 2) 1 24 := ⟨by decide +kernel, rfl⟩
theorem d29_24 : DAt B29 24 (.iconst 0) 1 25 := ⟨by decide +kernel, rfl⟩
theorem d29_25 : DAt B29 25 (.istore_n 3) 1 26 := ⟨by decide +kernel, rfl⟩
theorem d29_26 : DAt B29 26 (.iload_n 3) 1 27 := ⟨by decide +kernel, rfl⟩
theorem d29_27 : DAt B29 27 (.aload_n 0) 1 28 := ⟨by decide +kernel, rfl⟩
theorem d29_28 : DAt B29 28 (.getfield 38) 3 31 := ⟨by decide +kernel, rfl⟩
theorem d29_31 : DAt B29 31 (.if_icmp .ge 83) 3 34 := ⟨by decide +kernel, rfl⟩
theorem d29_34 : DAt B29 34 (.aload_n 0) 1 35 := ⟨by decide +kernel, rfl⟩
theorem d29_35 : DAt B29 35 (.getfield 7) 3 38 := ⟨by decide +kernel, rfl⟩
theorem d29_38 : DAt B29 38 (.iload_n 3) 1 39 := ⟨by decide +kernel, rfl⟩
theorem d29_39 : DAt B29 39 (.iaload) 1 40 := ⟨by decide +kernel, rfl⟩
theorem d29_40 : DAt B29 40 (.istore 4) 2 42 := ⟨by decide +kernel, rfl⟩
theorem d29_42 : DAt B29 42 (.iconst 1) 1 43 := ⟨by decide +kernel, rfl⟩
theorem d29_43 : DAt B29 43 (.istore 5) 2 45 := ⟨by decide +kernel, rfl⟩
theorem d29_45 : DAt B29 45 (.iload 5) 2 47 := ⟨by decide +kernel, rfl⟩
theorem d29_47 : DAt B29 47 (.iload 4) 2 49 := ⟨by decide +kernel, rfl⟩
theorem d29_49 : DAt B29 49 (.if_icmp .gt 59) 3 52 := ⟨by decide +kernel, rfl⟩
theorem d29_52 : DAt B29 52 (.iload 5) 2 54 := ⟨by decide +kernel, rfl⟩
theorem d29_54 : DAt B29 54 (.bipush 8) 2 56 := ⟨by decide +kernel, rfl⟩
theorem d29_56 : DAt B29 56 (.if_icmp .gt 52) 3 59 := ⟨by decide +kernel, rfl⟩
theorem d29_59 : DAt B29 59 (.aload_n 0) 1 60 := ⟨by decide +kernel, rfl⟩
theorem d29_60 : DAt B29 60 (.iload_n 1) 1 61 := ⟨by decide +kernel, rfl⟩
theorem d29_61 : DAt B29 61 (.iload_n 3) 1 62 := ⟨by decide +kernel, rfl⟩
theorem d29_62 : DAt B29 62 (.iload 5) 2 64 := ⟨by decide +kernel, rfl⟩
theorem d29_64 : DAt B29 64 (.invokevirtual 45) 3 67 := ⟨by decide +kernel, rfl⟩
theorem d29_67 : DAt B29 67 (.istore 6) 2 69 := ⟨by decide +kernel, rfl⟩
theorem d29_69 : DAt B29 69 (.aload_n 0) 1 70 := ⟨by decide +kernel, rfl⟩
theorem d29_70 : DAt B29 70 (.getfield 20) 3 73 := ⟨by decide +kernel, rfl⟩
theorem d29_73 : DAt B29 73 (.iload 6) 2 75 := ⟨by decide +kernel, rfl⟩
theorem d29_75 : DAt B29 75 (.iaload) 1 76 := ⟨by decide +kernel, rfl⟩
theorem d29_76 : DAt B29 76 (.iconst 2) 1 77 := ⟨by decide +kernel, rfl⟩
theorem d29_77 : DAt B29 77 (.if_icmp .ne 25) 3 80 := ⟨by decide +kernel, rfl⟩
theorem d29_80 : DAt B29 80 (.aload_n 0) 1 81 := ⟨by decide +kernel, rfl⟩
theorem d29_81 : DAt B29 81 (.iload_n 1) 1 82 := ⟨by decide +kernel, rfl⟩
theorem d29_82 : DAt B29 82 (.iload_n 3) 1 83 := ⟨by decide +kernel, rfl⟩
theorem d29_83 : DAt B29 83 (.iload 5) 2 85 := ⟨by decide +kernel, rfl⟩
theorem d29_85 : DAt B29 85 (.invokevirtual 79) 3 88 := ⟨by decide +kernel, rfl⟩
theorem d29_88 : DAt B29 88 (.ifCond .eq 14) 3 91 := ⟨by decide +kernel, rfl⟩
theorem d29_91 : DAt B29 91 (.aload_n 0) 1 92 := ⟨by decide +kernel, rfl⟩
theorem d29_92 : DAt B29 92 (.getfield 20) 3 95 := ⟨by decide +kernel, rfl⟩
theorem d29_95 : DAt B29 95 (.iload 6) 2 97 := ⟨by decide +kernel, rfl⟩
theorem d29_97 : DAt B29 97 (.iconst 3) 1 98 := ⟨by decide +kernel, rfl⟩
theorem d29_98 : DAt B29 98 (.iastore) 1 99 := ⟨by decide +kernel, rfl⟩
theorem d29_99 : DAt B29 99 (.iinc 2 1) 3 102 := ⟨by decide +kernel, rfl⟩
theorem d29_102 : DAt B29 102 (.iinc 5 1) 3 105 := ⟨by decide +kernel, rfl⟩
theorem d29_105 : DAt B29 105 (.goto (-60)) 3 108 := ⟨by decide +kernel, rfl⟩
theorem d29_108 : DAt B29 108 (.iinc 3 1) 3 111 := ⟨by decide +kernel, rfl⟩
theorem d29_111 : DAt B29 111 (.goto (-85)) 3 114 := ⟨by decide +kernel, rfl⟩
theorem d29_114 : DAt B29 114 (.iload_n 2) 1 115 := ⟨by decide +kernel, rfl⟩
theorem d29_115 : DAt B29 115 (.ireturn) 1 116 := ⟨by decide +kernel, rfl⟩
def B32 : Bdy := ((⟨"CausalStable", "othersAllCrashed", "(I)Z"⟩ : MethodName), prog_1_method_12_code, 3, (some .boolean), ({ frames := 0, cells := 0, slots := 0, locals := 0 } : Room))
theorem d32_0 : DAt B32 0 (.iconst 0) 1 1 := ⟨by decide +kernel, rfl⟩
theorem d32_1 : DAt B32 1 (.istore_n 2) 1 2 := ⟨by decide +kernel, rfl⟩
theorem d32_2 : DAt B32 2 (.iload_n 2) 1 3 := ⟨by decide +kernel, rfl⟩
theorem d32_3 : DAt B32 3 (.aload_n 0) 1 4 := ⟨by decide +kernel, rfl⟩
theorem d32_4 : DAt B32 4 (.getfield 38) 3 7 := ⟨by decide +kernel, rfl⟩
theorem d32_7 : DAt B32 7 (.if_icmp .ge 25) 3 10 := ⟨by decide +kernel, rfl⟩
theorem d32_10 : DAt B32 10 (.iload_n 2) 1 11 := ⟨by decide +kernel, rfl⟩
theorem d32_11 : DAt B32 11 (.iload_n 1) 1 12 := ⟨by decide +kernel, rfl⟩
theorem d32_12 : DAt B32 12 (.if_icmp .eq 14) 3 15 := ⟨by decide +kernel, rfl⟩
theorem d32_15 : DAt B32 15 (.aload_n 0) 1 16 := ⟨by decide +kernel, rfl⟩
theorem d32_16 : DAt B32 16 (.getfield 13) 3 19 := ⟨by decide +kernel, rfl⟩
theorem d32_19 : DAt B32 19 (.iload_n 2) 1 20 := ⟨by decide +kernel, rfl⟩
theorem d32_20 : DAt B32 20 (.baload) 1 21 := ⟨by decide +kernel, rfl⟩
theorem d32_21 : DAt B32 21 (.ifCond .ne 5) 3 24 := ⟨by decide +kernel, rfl⟩
theorem d32_24 : DAt B32 24 (.iconst 0) 1 25 := ⟨by decide +kernel, rfl⟩
theorem d32_25 : DAt B32 25 (.ireturn) 1 26 := ⟨by decide +kernel, rfl⟩
theorem d32_26 : DAt B32 26 (.iinc 2 1) 3 29 := ⟨by decide +kernel, rfl⟩
theorem d32_29 : DAt B32 29 (.goto (-27)) 3 32 := ⟨by decide +kernel, rfl⟩
theorem d32_32 : DAt B32 32 (.iconst 1) 1 33 := ⟨by decide +kernel, rfl⟩
theorem d32_33 : DAt B32 33 (.ireturn) 1 34 := ⟨by decide +kernel, rfl⟩
def B31 : Bdy := ((⟨"CausalStable", "crash", "(I)I"⟩ : MethodName), prog_1_method_20_code, 2, (some .int), ({ frames := 1, cells := 0, slots := 0, locals := 14 } : Room))
theorem d31_0 : DAt B31 0 (.aload_n 0) 1 1 := ⟨by decide +kernel, rfl⟩
theorem d31_1 : DAt B31 1 (.iload_n 1) 1 2 := ⟨by decide +kernel, rfl⟩
theorem d31_2 : DAt B31 2 (.invokevirtual 68) 3 5 := ⟨by decide +kernel, rfl⟩
theorem d31_5 : DAt B31 5 (.ifCond .ne 5) 3 8 := ⟨by decide +kernel, rfl⟩
theorem d31_8 : DAt B31 8 (.iconst (-1)) 1 9 := ⟨by decide +kernel, rfl⟩
theorem d31_9 : DAt B31 9 (.ireturn) 1 10 := ⟨by decide +kernel, rfl⟩
theorem d31_10 : DAt B31 10 (.aload_n 0) 1 11 := ⟨by decide +kernel, rfl⟩
theorem d31_11 : DAt B31 11 (.getfield 13) 3 14 := ⟨by decide +kernel, rfl⟩
theorem d31_14 : DAt B31 14 (.iload_n 1) 1 15 := ⟨by decide +kernel, rfl⟩
theorem d31_15 : DAt B31 15 (.baload) 1 16 := ⟨by decide +kernel, rfl⟩
theorem d31_16 : DAt B31 16 (.ifCond .eq 6) 3 19 := ⟨by decide +kernel, rfl⟩
theorem d31_19 : DAt B31 19 (.bipush (-2)) 2 21 := ⟨by decide +kernel, rfl⟩
theorem d31_21 : DAt B31 21 (.ireturn) 1 22 := ⟨by decide +kernel, rfl⟩
theorem d31_22 : DAt B31 22 (.aload_n 0) 1 23 := ⟨by decide +kernel, rfl⟩
theorem d31_23 : DAt B31 23 (.iload_n 1) 1 24 := ⟨by decide +kernel, rfl⟩
theorem d31_24 : DAt B31 24 (.invokevirtual 82) 3 27 := ⟨by decide +kernel, rfl⟩
theorem d31_27 : DAt B31 27 (.ifCond .eq 6) 3 30 := ⟨by decide +kernel, rfl⟩
theorem d31_30 : DAt B31 30 (.bipush (-7)) 2 32 := ⟨by decide +kernel, rfl⟩
theorem d31_32 : DAt B31 32 (.ireturn) 1 33 := ⟨by decide +kernel, rfl⟩
theorem d31_33 : DAt B31 33 (.aload_n 0) 1 34 := ⟨by decide +kernel, rfl⟩
theorem d31_34 : DAt B31 34 (.getfield 13) 3 37 := ⟨by decide +kernel, rfl⟩
theorem d31_37 : DAt B31 37 (.iload_n 1) 1 38 := ⟨by decide +kernel, rfl⟩
theorem d31_38 : DAt B31 38 (.iconst 1) 1 39 := ⟨by decide +kernel, rfl⟩
theorem d31_39 : DAt B31 39 (.bastore) 1 40 := ⟨by decide +kernel, rfl⟩
theorem d31_40 : DAt B31 40 (.iconst 0) 1 41 := ⟨by decide +kernel, rfl⟩
theorem d31_41 : DAt B31 41 (.ireturn) 1 42 := ⟨by decide +kernel, rfl⟩
def B0 : Bdy := (x, code, maxLocals, ret, room_1)
theorem d0_0 : DAt B0 0 (.iconst 2) 1 1 := ⟨at_0, rfl⟩
theorem d0_1 : DAt B0 1 (.aload_n 0) 1 2 := ⟨at_1, rfl⟩
theorem d0_2 : DAt B0 2 (.iconst 0) 1 3 := ⟨at_2, rfl⟩
theorem d0_3 : DAt B0 3 (.invokestatic 7) 3 6 := ⟨at_3, rfl⟩
theorem d0_6 : DAt B0 6 (.iconst 3) 1 7 := ⟨at_6, rfl⟩
theorem d0_7 : DAt B0 7 (.iand) 1 8 := ⟨at_7, rfl⟩
theorem d0_8 : DAt B0 8 (.iadd) 1 9 := ⟨at_8, rfl⟩
theorem d0_9 : DAt B0 9 (.istore_n 1) 1 10 := ⟨at_9, rfl⟩
theorem d0_10 : DAt B0 10 (.iconst 2) 1 11 := ⟨at_10, rfl⟩
theorem d0_11 : DAt B0 11 (.aload_n 0) 1 12 := ⟨at_11, rfl⟩
theorem d0_12 : DAt B0 12 (.iconst 1) 1 13 := ⟨at_12, rfl⟩
theorem d0_13 : DAt B0 13 (.invokestatic 7) 3 16 := ⟨at_13, rfl⟩
theorem d0_16 : DAt B0 16 (.iconst 3) 1 17 := ⟨at_16, rfl⟩
theorem d0_17 : DAt B0 17 (.iand) 1 18 := ⟨at_17, rfl⟩
theorem d0_18 : DAt B0 18 (.iadd) 1 19 := ⟨at_18, rfl⟩
theorem d0_19 : DAt B0 19 (.istore_n 2) 1 20 := ⟨at_19, rfl⟩
theorem d0_20 : DAt B0 20 (.new 13) 3 23 := ⟨at_20, rfl⟩
theorem d0_23 : DAt B0 23 (.dup) 1 24 := ⟨at_23, rfl⟩
theorem d0_24 : DAt B0 24 (.iload_n 1) 1 25 := ⟨at_24, rfl⟩
theorem d0_25 : DAt B0 25 (.iload_n 2) 1 26 := ⟨at_25, rfl⟩
theorem d0_26 : DAt B0 26 (.invokespecial 15) 3 29 := ⟨at_26, rfl⟩
theorem d0_29 : DAt B0 29 (.astore_n 3) 1 30 := ⟨at_29, rfl⟩
theorem d0_30 : DAt B0 30 (.aload_n 3) 1 31 := ⟨at_30, rfl⟩
theorem d0_31 : DAt B0 31 (.iload_n 1) 1 32 := ⟨at_31, rfl⟩
theorem d0_32 : DAt B0 32 (.invokestatic 18) 3 35 := ⟨at_32, rfl⟩
theorem d0_35 : DAt B0 35 (.ifCond .ne 5) 3 38 := ⟨at_35, rfl⟩
theorem d0_38 : DAt B0 38 (.iconst 0) 1 39 := ⟨at_38, rfl⟩
theorem d0_39 : DAt B0 39 (.ireturn) 1 40 := ⟨at_39, rfl⟩
theorem d0_40 : DAt B0 40 (.iconst 2) 1 41 := ⟨at_40, rfl⟩
theorem d0_41 : DAt B0 41 (.istore 4) 2 43 := ⟨at_41, rfl⟩
theorem d0_43 : DAt B0 43 (.iload 4) 2 45 := ⟨at_43, rfl⟩
theorem d0_45 : DAt B0 45 (.aload_n 0) 1 46 := ⟨at_45, rfl⟩
theorem d0_46 : DAt B0 46 (.arraylength) 1 47 := ⟨at_46, rfl⟩
theorem d0_47 : DAt B0 47 (.if_icmp .ge 346) 3 50 := ⟨at_47, rfl⟩
theorem d0_50 : DAt B0 50 (.aload_n 0) 1 51 := ⟨at_50, rfl⟩
theorem d0_51 : DAt B0 51 (.iload 4) 2 53 := ⟨at_51, rfl⟩
theorem d0_53 : DAt B0 53 (.invokestatic 7) 3 56 := ⟨at_53, rfl⟩
theorem d0_56 : DAt B0 56 (.bipush 15) 2 58 := ⟨at_56, rfl⟩
theorem d0_58 : DAt B0 58 (.iand) 1 59 := ⟨at_58, rfl⟩
theorem d0_59 : DAt B0 59 (.istore 5) 2 61 := ⟨at_59, rfl⟩
theorem d0_61 : DAt B0 61 (.aload_n 0) 1 62 := ⟨at_61, rfl⟩
theorem d0_62 : DAt B0 62 (.iload 4) 2 64 := ⟨at_62, rfl⟩
theorem d0_64 : DAt B0 64 (.iconst 1) 1 65 := ⟨at_64, rfl⟩
theorem d0_65 : DAt B0 65 (.iadd) 1 66 := ⟨at_65, rfl⟩
theorem d0_66 : DAt B0 66 (.invokestatic 7) 3 69 := ⟨at_66, rfl⟩
theorem d0_69 : DAt B0 69 (.sipush 1023) 3 72 := ⟨at_69, rfl⟩
theorem d0_72 : DAt B0 72 (.iand) 1 73 := ⟨at_72, rfl⟩
theorem d0_73 : DAt B0 73 (.istore 6) 2 75 := ⟨at_73, rfl⟩
theorem d0_75 : DAt B0 75 (.aload_n 0) 1 76 := ⟨at_75, rfl⟩
theorem d0_76 : DAt B0 76 (.iload 4) 2 78 := ⟨at_76, rfl⟩
theorem d0_78 : DAt B0 78 (.iconst 2) 1 79 := ⟨at_78, rfl⟩
theorem d0_79 : DAt B0 79 (.iadd) 1 80 := ⟨at_79, rfl⟩
theorem d0_80 : DAt B0 80 (.invokestatic 7) 3 83 := ⟨at_80, rfl⟩
theorem d0_83 : DAt B0 83 (.sipush 1023) 3 86 := ⟨at_83, rfl⟩
theorem d0_86 : DAt B0 86 (.iand) 1 87 := ⟨at_86, rfl⟩
theorem d0_87 : DAt B0 87 (.istore 7) 2 89 := ⟨at_87, rfl⟩
theorem d0_89 : DAt B0 89 (.aload_n 0) 1 90 := ⟨at_89, rfl⟩
theorem d0_90 : DAt B0 90 (.iload 4) 2 92 := ⟨at_90, rfl⟩
theorem d0_92 : DAt B0 92 (.iconst 3) 1 93 := ⟨at_92, rfl⟩
theorem d0_93 : DAt B0 93 (.iadd) 1 94 := ⟨at_93, rfl⟩
theorem d0_94 : DAt B0 94 (.invokestatic 7) 3 97 := ⟨at_94, rfl⟩
theorem d0_97 : DAt B0 97 (.sipush 1023) 3 100 := ⟨at_97, rfl⟩
theorem d0_100 : DAt B0 100 (.iand) 1 101 := ⟨at_100, rfl⟩
theorem d0_101 : DAt B0 101 (.istore 8) 2 103 := ⟨at_101, rfl⟩
theorem d0_103 : DAt B0 103 (.iload 6) 2 105 := ⟨at_103, rfl⟩
theorem d0_105 : DAt B0 105 (.iload_n 1) 1 106 := ⟨at_105, rfl⟩
theorem d0_106 : DAt B0 106 (.irem) 1 107 := ⟨at_106, rfl⟩
theorem d0_107 : DAt B0 107 (.istore 9) 2 109 := ⟨at_107, rfl⟩
theorem d0_109 : DAt B0 109 (.iload 7) 2 111 := ⟨at_109, rfl⟩
theorem d0_111 : DAt B0 111 (.iload_n 1) 1 112 := ⟨at_111, rfl⟩
theorem d0_112 : DAt B0 112 (.irem) 1 113 := ⟨at_112, rfl⟩
theorem d0_113 : DAt B0 113 (.istore 10) 2 115 := ⟨at_113, rfl⟩
theorem d0_115 : DAt B0 115 (.aload_n 3) 1 116 := ⟨at_115, rfl⟩
theorem d0_116 : DAt B0 116 (.iload 10) 2 118 := ⟨at_116, rfl⟩
theorem d0_118 : DAt B0 118 (.invokevirtual 22) 3 121 := ⟨at_118, rfl⟩
theorem d0_121 : DAt B0 121 (.istore 11) 2 123 := ⟨at_121, rfl⟩
theorem d0_123 : DAt B0 123 (.iconst 1) 1 124 := ⟨at_123, rfl⟩
theorem d0_124 : DAt B0 124 (.iload 8) 2 126 := ⟨at_124, rfl⟩
theorem d0_126 : DAt B0 126 (.bipush 7) 2 128 := ⟨at_126, rfl⟩
theorem d0_128 : DAt B0 128 (.iand) 1 129 := ⟨at_128, rfl⟩
theorem d0_129 : DAt B0 129 (.iload 11) 2 131 := ⟨at_129, rfl⟩
theorem d0_131 : DAt B0 131 (.iconst 1) 1 132 := ⟨at_131, rfl⟩
theorem d0_132 : DAt B0 132 (.if_icmp .ge 7) 3 135 := ⟨at_132, rfl⟩
theorem d0_135 : DAt B0 135 (.iconst 1) 1 136 := ⟨at_135, rfl⟩
theorem d0_136 : DAt B0 136 (.goto 5) 3 139 := ⟨at_136, rfl⟩
theorem d0_139 : DAt B0 139 (.iload 11) 2 141 := ⟨at_139, rfl⟩
theorem d0_141 : DAt B0 141 (.irem) 1 142 := ⟨at_141, rfl⟩
theorem d0_142 : DAt B0 142 (.iadd) 1 143 := ⟨at_142, rfl⟩
theorem d0_143 : DAt B0 143 (.istore 12) 2 145 := ⟨at_143, rfl⟩
theorem d0_145 : DAt B0 145 (.iload 5) 2 147 := ⟨at_145, rfl⟩
theorem d0_147 : DAt B0 147 (.iconst 3) 1 148 := ⟨at_147, rfl⟩
theorem d0_148 : DAt B0 148 (.if_icmp .ge 13) 3 151 := ⟨at_148, rfl⟩
theorem d0_151 : DAt B0 151 (.aload_n 3) 1 152 := ⟨at_151, rfl⟩
theorem d0_152 : DAt B0 152 (.iload 9) 2 154 := ⟨at_152, rfl⟩
theorem d0_154 : DAt B0 154 (.invokevirtual 26) 3 157 := ⟨at_154, rfl⟩
theorem d0_157 : DAt B0 157 (.pop) 1 158 := ⟨at_157, rfl⟩
theorem d0_158 : DAt B0 158 (.goto 219) 3 161 := ⟨at_158, rfl⟩
theorem d0_161 : DAt B0 161 (.iload 5) 2 163 := ⟨at_161, rfl⟩
theorem d0_163 : DAt B0 163 (.bipush 8) 2 165 := ⟨at_163, rfl⟩
theorem d0_165 : DAt B0 165 (.if_icmp .ge 75) 3 168 := ⟨at_165, rfl⟩
theorem d0_168 : DAt B0 168 (.iconst 0) 1 169 := ⟨at_168, rfl⟩
theorem d0_169 : DAt B0 169 (.istore 13) 2 171 := ⟨at_169, rfl⟩
theorem d0_171 : DAt B0 171 (.iload 13) 2 173 := ⟨at_171, rfl⟩
theorem d0_173 : DAt B0 173 (.iload_n 1) 1 174 := ⟨at_173, rfl⟩
theorem d0_174 : DAt B0 174 (.iload_n 2) 1 175 := ⟨at_174, rfl⟩
theorem d0_175 : DAt B0 175 (.imul) 1 176 := ⟨at_175, rfl⟩
theorem d0_176 : DAt B0 176 (.if_icmp .ge 61) 3 179 := ⟨at_176, rfl⟩
theorem d0_179 : DAt B0 179 (.iload 10) 2 181 := ⟨at_179, rfl⟩
theorem d0_181 : DAt B0 181 (.iload 13) 2 183 := ⟨at_181, rfl⟩
theorem d0_183 : DAt B0 183 (.iload_n 2) 1 184 := ⟨at_183, rfl⟩
theorem d0_184 : DAt B0 184 (.idiv) 1 185 := ⟨at_184, rfl⟩
theorem d0_185 : DAt B0 185 (.iadd) 1 186 := ⟨at_185, rfl⟩
theorem d0_186 : DAt B0 186 (.iload_n 1) 1 187 := ⟨at_186, rfl⟩
theorem d0_187 : DAt B0 187 (.irem) 1 188 := ⟨at_187, rfl⟩
theorem d0_188 : DAt B0 188 (.istore 14) 2 190 := ⟨at_188, rfl⟩
theorem d0_190 : DAt B0 190 (.iconst 1) 1 191 := ⟨at_190, rfl⟩
theorem d0_191 : DAt B0 191 (.iload 8) 2 193 := ⟨at_191, rfl⟩
theorem d0_193 : DAt B0 193 (.bipush 7) 2 195 := ⟨at_193, rfl⟩
theorem d0_195 : DAt B0 195 (.iand) 1 196 := ⟨at_195, rfl⟩
theorem d0_196 : DAt B0 196 (.iload 13) 2 198 := ⟨at_196, rfl⟩
theorem d0_198 : DAt B0 198 (.iadd) 1 199 := ⟨at_198, rfl⟩
theorem d0_199 : DAt B0 199 (.iload_n 2) 1 200 := ⟨at_199, rfl⟩
theorem d0_200 : DAt B0 200 (.irem) 1 201 := ⟨at_200, rfl⟩
theorem d0_201 : DAt B0 201 (.iadd) 1 202 := ⟨at_201, rfl⟩
theorem d0_202 : DAt B0 202 (.istore 15) 2 204 := ⟨at_202, rfl⟩
theorem d0_204 : DAt B0 204 (.aload_n 3) 1 205 := ⟨at_204, rfl⟩
theorem d0_205 : DAt B0 205 (.iload 14) 2 207 := ⟨at_205, rfl⟩
theorem d0_207 : DAt B0 207 (.iload 15) 2 209 := ⟨at_207, rfl⟩
theorem d0_209 : DAt B0 209 (.iload 9) 2 211 := ⟨at_209, rfl⟩
theorem d0_211 : DAt B0 211 (.invokevirtual 29) 3 214 := ⟨at_211, rfl⟩
theorem d0_214 : DAt B0 214 (.ifCond .le 17) 3 217 := ⟨at_214, rfl⟩
theorem d0_217 : DAt B0 217 (.aload_n 3) 1 218 := ⟨at_217, rfl⟩
theorem d0_218 : DAt B0 218 (.iload 9) 2 220 := ⟨at_218, rfl⟩
theorem d0_220 : DAt B0 220 (.iload 14) 2 222 := ⟨at_220, rfl⟩
theorem d0_222 : DAt B0 222 (.iload 15) 2 224 := ⟨at_222, rfl⟩
theorem d0_224 : DAt B0 224 (.invokevirtual 33) 3 227 := ⟨at_224, rfl⟩
theorem d0_227 : DAt B0 227 (.pop) 1 228 := ⟨at_227, rfl⟩
theorem d0_228 : DAt B0 228 (.goto 9) 3 231 := ⟨at_228, rfl⟩
theorem d0_231 : DAt B0 231 (.iinc 13 1) 3 234 := ⟨at_231, rfl⟩
theorem d0_234 : DAt B0 234 (.goto (-63)) 3 237 := ⟨at_234, rfl⟩
theorem d0_237 : DAt B0 237 (.goto 140) 3 240 := ⟨at_237, rfl⟩
theorem d0_240 : DAt B0 240 (.iload 5) 2 242 := ⟨at_240, rfl⟩
theorem d0_242 : DAt B0 242 (.bipush 8) 2 244 := ⟨at_242, rfl⟩
theorem d0_244 : DAt B0 244 (.if_icmp .ne 17) 3 247 := ⟨at_244, rfl⟩
theorem d0_247 : DAt B0 247 (.aload_n 3) 1 248 := ⟨at_247, rfl⟩
theorem d0_248 : DAt B0 248 (.iload 10) 2 250 := ⟨at_248, rfl⟩
theorem d0_250 : DAt B0 250 (.iload 12) 2 252 := ⟨at_250, rfl⟩
theorem d0_252 : DAt B0 252 (.iload 9) 2 254 := ⟨at_252, rfl⟩
theorem d0_254 : DAt B0 254 (.invokevirtual 36) 3 257 := ⟨at_254, rfl⟩
theorem d0_257 : DAt B0 257 (.pop) 1 258 := ⟨at_257, rfl⟩
theorem d0_258 : DAt B0 258 (.goto 119) 3 261 := ⟨at_258, rfl⟩
theorem d0_261 : DAt B0 261 (.iload 5) 2 263 := ⟨at_261, rfl⟩
theorem d0_263 : DAt B0 263 (.bipush 9) 2 265 := ⟨at_263, rfl⟩
theorem d0_265 : DAt B0 265 (.if_icmp .ne 17) 3 268 := ⟨at_265, rfl⟩
theorem d0_268 : DAt B0 268 (.aload_n 3) 1 269 := ⟨at_268, rfl⟩
theorem d0_269 : DAt B0 269 (.iload 10) 2 271 := ⟨at_269, rfl⟩
theorem d0_271 : DAt B0 271 (.iload 12) 2 273 := ⟨at_271, rfl⟩
theorem d0_273 : DAt B0 273 (.iload 9) 2 275 := ⟨at_273, rfl⟩
theorem d0_275 : DAt B0 275 (.invokevirtual 39) 3 278 := ⟨at_275, rfl⟩
theorem d0_278 : DAt B0 278 (.pop) 1 279 := ⟨at_278, rfl⟩
theorem d0_279 : DAt B0 279 (.goto 98) 3 282 := ⟨at_279, rfl⟩
theorem d0_282 : DAt B0 282 (.iload 5) 2 284 := ⟨at_282, rfl⟩
theorem d0_284 : DAt B0 284 (.bipush 12) 2 286 := ⟨at_284, rfl⟩
theorem d0_286 : DAt B0 286 (.if_icmp .ge 35) 3 289 := ⟨at_286, rfl⟩
theorem d0_289 : DAt B0 289 (.aload_n 3) 1 290 := ⟨at_289, rfl⟩
theorem d0_290 : DAt B0 290 (.iload 9) 2 292 := ⟨at_290, rfl⟩
theorem d0_292 : DAt B0 292 (.iconst 1) 1 293 := ⟨at_292, rfl⟩
theorem d0_293 : DAt B0 293 (.iadd) 1 294 := ⟨at_293, rfl⟩
theorem d0_294 : DAt B0 294 (.iload 8) 2 296 := ⟨at_294, rfl⟩
theorem d0_296 : DAt B0 296 (.iconst 3) 1 297 := ⟨at_296, rfl⟩
theorem d0_297 : DAt B0 297 (.ishr) 1 298 := ⟨at_297, rfl⟩
theorem d0_298 : DAt B0 298 (.bipush 7) 2 300 := ⟨at_298, rfl⟩
theorem d0_300 : DAt B0 300 (.iand) 1 301 := ⟨at_300, rfl⟩
theorem d0_301 : DAt B0 301 (.iload_n 1) 1 302 := ⟨at_301, rfl⟩
theorem d0_302 : DAt B0 302 (.iconst 1) 1 303 := ⟨at_302, rfl⟩
theorem d0_303 : DAt B0 303 (.isub) 1 304 := ⟨at_303, rfl⟩
theorem d0_304 : DAt B0 304 (.irem) 1 305 := ⟨at_304, rfl⟩
theorem d0_305 : DAt B0 305 (.iadd) 1 306 := ⟨at_305, rfl⟩
theorem d0_306 : DAt B0 306 (.iload_n 1) 1 307 := ⟨at_306, rfl⟩
theorem d0_307 : DAt B0 307 (.irem) 1 308 := ⟨at_307, rfl⟩
theorem d0_308 : DAt B0 308 (.iload 9) 2 310 := ⟨at_308, rfl⟩
theorem d0_310 : DAt B0 310 (.iload 10) 2 312 := ⟨at_310, rfl⟩
theorem d0_312 : DAt B0 312 (.iload 12) 2 314 := ⟨at_312, rfl⟩
theorem d0_314 : DAt B0 314 (.invokevirtual 42) 3 317 := ⟨at_314, rfl⟩
theorem d0_317 : DAt B0 317 (.pop) 1 318 := ⟨at_317, rfl⟩
theorem d0_318 : DAt B0 318 (.goto 59) 3 321 := ⟨at_318, rfl⟩
theorem d0_321 : DAt B0 321 (.iload 5) 2 323 := ⟨at_321, rfl⟩
theorem d0_323 : DAt B0 323 (.bipush 14) 2 325 := ⟨at_323, rfl⟩
theorem d0_325 : DAt B0 325 (.if_icmp .ge 28) 3 328 := ⟨at_325, rfl⟩
theorem d0_328 : DAt B0 328 (.aload_n 3) 1 329 := ⟨at_328, rfl⟩
theorem d0_329 : DAt B0 329 (.iload 9) 2 331 := ⟨at_329, rfl⟩
theorem d0_331 : DAt B0 331 (.iload 9) 2 333 := ⟨at_331, rfl⟩
theorem d0_333 : DAt B0 333 (.iconst 1) 1 334 := ⟨at_333, rfl⟩
theorem d0_334 : DAt B0 334 (.iadd) 1 335 := ⟨at_334, rfl⟩
theorem d0_335 : DAt B0 335 (.iload 7) 2 337 := ⟨at_335, rfl⟩
theorem d0_337 : DAt B0 337 (.iconst 3) 1 338 := ⟨at_337, rfl⟩
theorem d0_338 : DAt B0 338 (.ishr) 1 339 := ⟨at_338, rfl⟩
theorem d0_339 : DAt B0 339 (.iload_n 1) 1 340 := ⟨at_339, rfl⟩
theorem d0_340 : DAt B0 340 (.iconst 1) 1 341 := ⟨at_340, rfl⟩
theorem d0_341 : DAt B0 341 (.isub) 1 342 := ⟨at_341, rfl⟩
theorem d0_342 : DAt B0 342 (.irem) 1 343 := ⟨at_342, rfl⟩
theorem d0_343 : DAt B0 343 (.iadd) 1 344 := ⟨at_343, rfl⟩
theorem d0_344 : DAt B0 344 (.iload_n 1) 1 345 := ⟨at_344, rfl⟩
theorem d0_345 : DAt B0 345 (.irem) 1 346 := ⟨at_345, rfl⟩
theorem d0_346 : DAt B0 346 (.invokevirtual 46) 3 349 := ⟨at_346, rfl⟩
theorem d0_349 : DAt B0 349 (.pop) 1 350 := ⟨at_349, rfl⟩
theorem d0_350 : DAt B0 350 (.goto 27) 3 353 := ⟨at_350, rfl⟩
theorem d0_353 : DAt B0 353 (.iload 5) 2 355 := ⟨at_353, rfl⟩
theorem d0_355 : DAt B0 355 (.bipush 14) 2 357 := ⟨at_355, rfl⟩
theorem d0_357 : DAt B0 357 (.if_icmp .ne 13) 3 360 := ⟨at_357, rfl⟩
theorem d0_360 : DAt B0 360 (.aload_n 3) 1 361 := ⟨at_360, rfl⟩
theorem d0_361 : DAt B0 361 (.iload 9) 2 363 := ⟨at_361, rfl⟩
theorem d0_363 : DAt B0 363 (.invokevirtual 50) 3 366 := ⟨at_363, rfl⟩
theorem d0_366 : DAt B0 366 (.pop) 1 367 := ⟨at_366, rfl⟩
theorem d0_367 : DAt B0 367 (.goto 10) 3 370 := ⟨at_367, rfl⟩
theorem d0_370 : DAt B0 370 (.aload_n 3) 1 371 := ⟨at_370, rfl⟩
theorem d0_371 : DAt B0 371 (.iload 9) 2 373 := ⟨at_371, rfl⟩
theorem d0_373 : DAt B0 373 (.invokevirtual 53) 3 376 := ⟨at_373, rfl⟩
theorem d0_376 : DAt B0 376 (.pop) 1 377 := ⟨at_376, rfl⟩
theorem d0_377 : DAt B0 377 (.aload_n 3) 1 378 := ⟨at_377, rfl⟩
theorem d0_378 : DAt B0 378 (.iload_n 1) 1 379 := ⟨at_378, rfl⟩
theorem d0_379 : DAt B0 379 (.invokestatic 18) 3 382 := ⟨at_379, rfl⟩
theorem d0_382 : DAt B0 382 (.ifCond .ne 5) 3 385 := ⟨at_382, rfl⟩
theorem d0_385 : DAt B0 385 (.iconst 0) 1 386 := ⟨at_385, rfl⟩
theorem d0_386 : DAt B0 386 (.ireturn) 1 387 := ⟨at_386, rfl⟩
theorem d0_387 : DAt B0 387 (.iinc 4 4) 3 390 := ⟨at_387, rfl⟩
theorem d0_390 : DAt B0 390 (.goto (-347)) 3 393 := ⟨at_390, rfl⟩
theorem d0_393 : DAt B0 393 (.iconst 1) 1 394 := ⟨at_393, rfl⟩
theorem d0_394 : DAt B0 394 (.ireturn) 1 395 := ⟨at_394, rfl⟩
theorem ar1 : arity B1 2 := ⟨[(.array .int), .int], some .int, by decide +kernel, rfl⟩
theorem ar2 : arity B2 2 := ⟨[.int, .int], none, by decide +kernel, rfl⟩
theorem ar3 : arity B3 2 := ⟨[(.object "CausalStable"), .int], some .boolean, by decide +kernel, rfl⟩
theorem ar4 : arity B4 2 := ⟨[.int, .int], some .int, by decide +kernel, rfl⟩
theorem ar5 : arity B5 1 := ⟨[.int], some .boolean, by decide +kernel, rfl⟩
theorem ar6 : arity B6 1 := ⟨[.int], some .int, by decide +kernel, rfl⟩
theorem ar7 : arity B7 3 := ⟨[.int, .int, .int], some .int, by decide +kernel, rfl⟩
theorem ar8 : arity B8 3 := ⟨[.int, .int, .int], some .int, by decide +kernel, rfl⟩
theorem ar9 : arity B9 1 := ⟨[.int], some .int, by decide +kernel, rfl⟩
theorem ar10 : arity B10 2 := ⟨[.int, .int], some .int, by decide +kernel, rfl⟩
theorem ar11 : arity B11 3 := ⟨[.int, .int, .int], none, by decide +kernel, rfl⟩
theorem ar12 : arity B12 3 := ⟨[.int, .int, .int], some .int, by decide +kernel, rfl⟩
theorem ar13 : arity B13 2 := ⟨[.int, .int], some .int, by decide +kernel, rfl⟩
theorem ar14 : arity B14 4 := ⟨[(.object "CausalStable"), .int, .int, .int], some .int, by decide +kernel, rfl⟩
theorem ar15 : arity B15 3 := ⟨[.int, .int, .int], some .int, by decide +kernel, rfl⟩
theorem ar16 : arity B16 2 := ⟨[.int, .int], some .boolean, by decide +kernel, rfl⟩
theorem ar17 : arity B17 3 := ⟨[.int, .int, .int], some .int, by decide +kernel, rfl⟩
theorem ar18 : arity B18 1 := ⟨[.int], some .boolean, by decide +kernel, rfl⟩
theorem ar19 : arity B19 4 := ⟨[(.object "CausalStable"), .int, .int, .int], some .boolean, by decide +kernel, rfl⟩
theorem ar20 : arity B20 3 := ⟨[.int, .int, .int], some .int, by decide +kernel, rfl⟩
theorem ar21 : arity B21 3 := ⟨[.int, .int, .int], some .int, by decide +kernel, rfl⟩
theorem ar22 : arity B22 3 := ⟨[.int, .int, .int], some .int, by decide +kernel, rfl⟩
theorem ar23 : arity B23 1 := ⟨[.int], some .int, by decide +kernel, rfl⟩
theorem ar24 : arity B24 3 := ⟨[.int, .int, .int], some .boolean, by decide +kernel, rfl⟩
theorem ar25 : arity B25 3 := ⟨[.int, .int, .int], some .int, by decide +kernel, rfl⟩
theorem ar26 : arity B26 2 := ⟨[.int, .int], some .int, by decide +kernel, rfl⟩
theorem ar27 : arity B27 3 := ⟨[.int, .int, .int], some .int, by decide +kernel, rfl⟩
theorem ar28 : arity B28 4 := ⟨[.int, .int, .int, .int], some .int, by decide +kernel, rfl⟩
theorem ar29 : arity B29 1 := ⟨[.int], some .int, by decide +kernel, rfl⟩
theorem ar30 : arity B30 3 := ⟨[.int, .int, .int], some .boolean, by decide +kernel, rfl⟩
theorem ar31 : arity B31 1 := ⟨[.int], some .int, by decide +kernel, rfl⟩
theorem ar32 : arity B32 1 := ⟨[.int], some .boolean, by decide +kernel, rfl⟩
theorem cw1 : code_w B1 := ⟨mem1 3 rfl, mem1 2 rfl, by decide⟩
theorem cw2 : code_w B2 := ⟨mem1 9 rfl, mem1 6 rfl, by decide⟩
theorem cw3 : code_w B3 := ⟨mem1 39 rfl, mem1 2 rfl, by decide⟩
theorem cw4 : code_w B4 := ⟨mem1 44 rfl, mem1 6 rfl, by decide⟩
theorem cw5 : code_w B5 := ⟨mem1 48 rfl, mem1 6 rfl, by decide⟩
theorem cw6 : code_w B6 := ⟨mem1 53 rfl, mem1 6 rfl, by decide⟩
theorem cw7 : code_w B7 := ⟨mem1 58 rfl, mem1 6 rfl, by decide⟩
theorem cw8 : code_w B8 := ⟨mem1 62 rfl, mem1 6 rfl, by decide⟩
theorem cw9 : code_w B9 := ⟨mem1 67 rfl, mem1 6 rfl, by decide⟩
theorem cw10 : code_w B10 := ⟨mem1 71 rfl, mem1 6 rfl, by decide⟩
theorem cw11 : code_w B11 := ⟨mem1 75 rfl, mem1 6 rfl, by decide⟩
theorem cw12 : code_w B12 := ⟨mem1 79 rfl, mem1 6 rfl, by decide⟩
theorem cw13 : code_w B13 := ⟨mem1 84 rfl, mem1 6 rfl, by decide⟩
theorem cw14 : code_w B14 := ⟨mem1 87 rfl, mem1 2 rfl, by decide⟩
theorem cw15 : code_w B15 := ⟨mem1 92 rfl, mem1 6 rfl, by decide⟩
theorem cw16 : code_w B16 := ⟨mem1 96 rfl, mem1 6 rfl, by decide⟩
theorem cw17 : code_w B17 := ⟨mem1 101 rfl, mem1 6 rfl, by decide⟩
theorem cw18 : code_w B18 := ⟨mem1 106 rfl, mem1 6 rfl, by decide⟩
theorem cw19 : code_w B19 := ⟨mem1 109 rfl, mem1 2 rfl, by decide⟩
theorem cw20 : code_w B20 := ⟨mem1 114 rfl, mem1 6 rfl, by decide⟩
theorem cw21 : code_w B21 := ⟨mem1 118 rfl, mem1 6 rfl, by decide⟩
theorem cw22 : code_w B22 := ⟨mem1 123 rfl, mem1 6 rfl, by decide⟩
theorem cw23 : code_w B23 := ⟨mem1 127 rfl, mem1 6 rfl, by decide⟩
theorem cw24 : code_w B24 := ⟨mem1 131 rfl, mem1 6 rfl, by decide⟩
theorem cw25 : code_w B25 := ⟨mem1 136 rfl, mem1 6 rfl, by decide⟩
theorem cw26 : code_w B26 := ⟨mem1 141 rfl, mem1 6 rfl, by decide⟩
theorem cw27 : code_w B27 := ⟨mem1 146 rfl, mem1 6 rfl, by decide⟩
theorem cw28 : code_w B28 := ⟨mem1 151 rfl, mem1 6 rfl, by decide⟩
theorem cw29 : code_w B29 := ⟨mem1 156 rfl, mem1 6 rfl, by decide⟩
theorem cw30 : code_w B30 := ⟨mem1 160 rfl, mem1 6 rfl, by decide⟩
theorem cw31 : code_w B31 := ⟨mem1 165 rfl, mem1 6 rfl, by decide⟩
theorem cw32 : code_w B32 := ⟨mem1 169 rfl, mem1 6 rfl, by decide⟩
theorem rk0_1_0 : room_ok B0 B1 0 := by decide
theorem rk0_1_1 : room_ok B0 B1 1 := by decide
theorem rk0_3_0 : room_ok B0 B3 0 := by decide
theorem rk0_6_0 : room_ok B0 B6 0 := by decide
theorem rk0_9_0 : room_ok B0 B9 0 := by decide
theorem rk0_20_0 : room_ok B0 B20 0 := by decide
theorem rk0_22_0 : room_ok B0 B22 0 := by decide
theorem rk0_25_0 : room_ok B0 B25 0 := by decide
theorem rk0_26_0 : room_ok B0 B26 0 := by decide
theorem rk0_27_0 : room_ok B0 B27 0 := by decide
theorem rk0_28_0 : room_ok B0 B28 0 := by decide
theorem rk0_29_0 : room_ok B0 B29 0 := by decide
theorem rk0_31_0 : room_ok B0 B31 0 := by decide
theorem rk3_4_1 : room_ok B3 B4 1 := by decide
theorem rk3_6_0 : room_ok B3 B6 0 := by decide
theorem rk3_7_0 : room_ok B3 B7 0 := by decide
theorem rk3_13_0 : room_ok B3 B13 0 := by decide
theorem rk3_14_0 : room_ok B3 B14 0 := by decide
theorem rk3_14_2 : room_ok B3 B14 2 := by decide
theorem rk3_15_1 : room_ok B3 B15 1 := by decide
theorem rk3_17_0 : room_ok B3 B17 0 := by decide
theorem rk3_18_0 : room_ok B3 B18 0 := by decide
theorem rk3_19_0 : room_ok B3 B19 0 := by decide
theorem rk4_5_0 : room_ok B4 B5 0 := by decide
theorem rk6_5_0 : room_ok B6 B5 0 := by decide
theorem rk7_5_0 : room_ok B7 B5 0 := by decide
theorem rk7_8_0 : room_ok B7 B8 0 := by decide
theorem rk9_5_0 : room_ok B9 B5 0 := by decide
theorem rk9_10_0 : room_ok B9 B10 0 := by decide
theorem rk9_11_0 : room_ok B9 B11 0 := by decide
theorem rk11_8_0 : room_ok B11 B8 0 := by decide
theorem rk11_12_0 : room_ok B11 B12 0 := by decide
theorem rk13_5_0 : room_ok B13 B5 0 := by decide
theorem rk14_13_0 : room_ok B14 B13 0 := by decide
theorem rk15_5_0 : room_ok B15 B5 0 := by decide
theorem rk15_10_0 : room_ok B15 B10 0 := by decide
theorem rk15_16_0 : room_ok B15 B16 0 := by decide
theorem rk17_5_0 : room_ok B17 B5 0 := by decide
theorem rk17_12_0 : room_ok B17 B12 0 := by decide
theorem rk17_16_0 : room_ok B17 B16 0 := by decide
theorem rk18_5_0 : room_ok B18 B5 0 := by decide
theorem rk19_17_0 : room_ok B19 B17 0 := by decide
theorem rk20_5_0 : room_ok B20 B5 0 := by decide
theorem rk20_16_0 : room_ok B20 B16 0 := by decide
theorem rk20_21_0 : room_ok B20 B21 0 := by decide
theorem rk22_5_0 : room_ok B22 B5 0 := by decide
theorem rk22_12_0 : room_ok B22 B12 0 := by decide
theorem rk22_16_0 : room_ok B22 B16 0 := by decide
theorem rk22_21_0 : room_ok B22 B21 0 := by decide
theorem rk22_23_0 : room_ok B22 B23 0 := by decide
theorem rk23_11_0 : room_ok B23 B11 0 := by decide
theorem rk23_24_0 : room_ok B23 B24 0 := by decide
theorem rk24_10_0 : room_ok B24 B10 0 := by decide
theorem rk24_12_0 : room_ok B24 B12 0 := by decide
theorem rk24_16_0 : room_ok B24 B16 0 := by decide
theorem rk25_5_0 : room_ok B25 B5 0 := by decide
theorem rk25_16_0 : room_ok B25 B16 0 := by decide
theorem rk25_21_0 : room_ok B25 B21 0 := by decide
theorem rk26_5_0 : room_ok B26 B5 0 := by decide
theorem rk27_5_0 : room_ok B27 B5 0 := by decide
theorem rk27_16_0 : room_ok B27 B16 0 := by decide
theorem rk27_21_0 : room_ok B27 B21 0 := by decide
theorem rk28_5_0 : room_ok B28 B5 0 := by decide
theorem rk28_12_0 : room_ok B28 B12 0 := by decide
theorem rk28_16_0 : room_ok B28 B16 0 := by decide
theorem rk28_21_0 : room_ok B28 B21 0 := by decide
theorem rk29_5_0 : room_ok B29 B5 0 := by decide
theorem rk29_12_0 : room_ok B29 B12 0 := by decide
theorem rk29_30_0 : room_ok B29 B30 0 := by decide
theorem rk30_8_0 : room_ok B30 B8 0 := by decide
theorem rk31_5_0 : room_ok B31 B5 0 := by decide
theorem rk31_32_0 : room_ok B31 B32 0 := by decide
def L_cell (z : Int32) (f : Int32 → Int32) (i1 : Int32) : Option (Int32) :=
  if i1 < z then
    chk z i1 <|
    some (f i1)
  else
    some (0 : Int32)
set_option maxRecDepth 65536 in
set_option maxHeartbeats 4000000 in
theorem L_cell_p {C : Ctx} {G : AH} {sa : Nat} {z : Int32} {f : Int32 → Int32} (hs : ScrF C sa z f) {res : Int32} (i1 : Int32) (hf : L_cell z f i1 = some res) : Runs C B1 0 0 0 [vr sa, vi i1] [] G (Ans (some (.int res)) G) := by
  delta L_cell at hf
  refine Runs.iloadN d1_0 rfl <| Runs.aloadN d1_1 rfl <| Runs.lenS hs d1_2 <| ?_
  refine ite_el hf (fun hc1 hf => ?_) (fun hc1 hf => ?_)
  · refine Runs.icN d1_3 (tlt hc1).2.1 <| ?_
    refine Runs.aloadN d1_6 rfl <| Runs.iloadN d1_7 rfl <| ?_
    refine chk_el hf fun hi2 hf => ?_
    obtain rfl := Option.some.inj hf
    exact Runs.ialoadS hs d1_8 hi2 <| Runs.goto (pc' := 13) d1_9 (by decide) <| Runs.retI d1_13 rfl ⟨by decide, by decide⟩ ⟨rfl, rfl⟩
  · refine Runs.icY (pc' := 12) d1_3 (flt hc1).2.1 (by decide) <| ?_
    obtain rfl := Option.some.inj hf
    exact Runs.iconst d1_12 ci_0 <| Runs.retI d1_13 rfl ⟨by decide, by decide⟩ ⟨rfl, rfl⟩
theorem L_cell_pay {C : Ctx} {G : AH} {sa : Nat} {z : Int32} {f : Int32 → Int32} (hs : ScrF C sa z f) {res : Int32} {i1 : Int32} (hf : L_cell z f i1 = some res) : Pays C B1 [.ref sa, .int i1] G (Ans (some (.int res)) G) :=
  Pays.of pnL (Nat.le_of_ble_eq_true rfl) (P := [vr sa, vi i1]) 0 rfl (L_cell_p hs i1 hf)
def X_init_b116 (ob : Rec) (i4 : Int32) : Option (Rec) :=
  if (8 : Int32) < i4 then
    some (sI ob 1 (8 : Int32))
  else
    some (sI ob 1 i4)
set_option maxRecDepth 65536 in
set_option maxHeartbeats 4000000 in
theorem X_init_b116_p {C : Ctx} {a : Nat} {H : List (Nat × Nat × Rec)} {res : Rec} (ob : Rec) (i4 : Int32) (hf : X_init_b116 ob i4 = some res) : Runs C B2 9 2648 116 [vr a, vn, vn, vn, vi i4] [] (a + 1 + 9, (a, 9, ob) :: H) (Ans none (a + 1 + 9, (a, 9, res) :: H)) := by
  delta X_init_b116 at hf
  refine Runs.iload d2_116 rfl <| Runs.bipush d2_118 cb_8 <| ?_
  refine ite_el hf (fun hc3 hf => ?_) (fun hc3 hf => ?_)
  · refine Runs.icN d2_120 (tlt hc3).2.2.2 <| ?_
    obtain rfl := Option.some.inj hf
    exact Runs.bipush d2_123 cb_8 <| Runs.istore (P' := [vr a, vn, vn, vn, vi (8 : Int32)]) d2_125 (by decide) rfl <| Runs.aloadN d2_127 rfl <| Runs.iload d2_128 rfl <| Runs.putI d2_130 w35 fS_1 (Or.inl w36) <| Runs.retV d2_133 rfl ⟨by decide, by decide⟩ ⟨rfl, rfl⟩
  · refine Runs.icY (pc' := 127) d2_120 (flt hc3).2.2.2 (by decide) <| ?_
    obtain rfl := Option.some.inj hf
    exact Runs.aloadN d2_127 rfl <| Runs.iload d2_128 rfl <| Runs.putI d2_130 w35 fS_1 (Or.inl w36) <| Runs.retV d2_133 rfl ⟨by decide, by decide⟩ ⟨rfl, rfl⟩
def X_init_b99 (ob : Rec) (i2 : Int32) (i3 : Int32) : Option (Rec) :=
  if i2 < (1 : Int32) then
    X_init_b116 (sI ob 0 i3) (1 : Int32)
  else
    X_init_b116 (sI ob 0 i3) i2
set_option maxRecDepth 65536 in
set_option maxHeartbeats 4000000 in
theorem X_init_b99_p {C : Ctx} {a : Nat} {H : List (Nat × Nat × Rec)} {res : Rec} (ob : Rec) (i2 : Int32) (i3 : Int32) (hf : X_init_b99 ob i2 i3 = some res) : Runs C B2 9 2648 99 [vr a, vn, vi i2, vi i3, vn] [] (a + 1 + 9, (a, 9, ob) :: H) (Ans none (a + 1 + 9, (a, 9, res) :: H)) := by
  delta X_init_b99 at hf
  refine Runs.aloadN d2_99 rfl <| Runs.iloadN d2_100 rfl <| Runs.putI d2_101 w33 fS_0 (Or.inl w34) <| Runs.iloadN d2_104 rfl <| Runs.istore (P' := [vr a, vn, vi i2, vi i3, vi i2]) d2_105 (by decide) rfl <| Runs.iload d2_107 rfl <| Runs.iconst d2_109 ci_1 <| ?_
  refine ite_el hf (fun hc2 hf => ?_) (fun hc2 hf => ?_)
  · refine Runs.icN d2_110 (tlt hc2).2.1 <| ?_
    exact Runs.iconst d2_113 ci_1 <| Runs.istore (P' := [vr a, vn, vi i2, vi i3, vi (1 : Int32)]) d2_114 (by decide) rfl <| Runs.forget [true, false, false, false, true] rfl <| X_init_b116_p (sI ob 0 i3) (1 : Int32) hf
  · exact Runs.icY (pc' := 116) d2_110 (flt hc2).2.1 (by decide) <| Runs.forget [true, false, false, false, true] rfl <| X_init_b116_p (sI ob 0 i3) i2 hf
def X_init_b90 (ob : Rec) (i2 : Int32) (i3 : Int32) : Option (Rec) :=
  if (8 : Int32) < i3 then
    X_init_b99 ob i2 (8 : Int32)
  else
    X_init_b99 ob i2 i3
set_option maxRecDepth 65536 in
set_option maxHeartbeats 4000000 in
theorem X_init_b90_p {C : Ctx} {a : Nat} {H : List (Nat × Nat × Rec)} {res : Rec} (ob : Rec) (i2 : Int32) (i3 : Int32) (hf : X_init_b90 ob i2 i3 = some res) : Runs C B2 9 2648 90 [vr a, vn, vi i2, vi i3, vn] [] (a + 1 + 9, (a, 9, ob) :: H) (Ans none (a + 1 + 9, (a, 9, res) :: H)) := by
  delta X_init_b90 at hf
  refine Runs.iloadN d2_90 rfl <| Runs.bipush d2_91 cb_8 <| ?_
  refine ite_el hf (fun hc1 hf => ?_) (fun hc1 hf => ?_)
  · refine Runs.icN d2_93 (tlt hc1).2.2.2 <| ?_
    exact Runs.bipush d2_96 cb_8 <| Runs.istoreN (P' := [vr a, vn, vi i2, vi (8 : Int32), vn]) d2_98 (by decide) rfl <| X_init_b99_p ob i2 (8 : Int32) hf
  · exact Runs.icY (pc' := 99) d2_93 (flt hc1).2.2.2 (by decide) <| X_init_b99_p ob i2 i3 hf
def X_init (i1 : Int32) (i2 : Int32) : Option (Rec) :=
  if i1 < (2 : Int32) then
    X_init_b90 zrec i2 (2 : Int32)
  else
    X_init_b90 zrec i2 i1
set_option maxRecDepth 65536 in
set_option maxHeartbeats 4000000 in
theorem X_init_p {C : Ctx} {a : Nat} {H : List (Nat × Nat × Rec)} {res : Rec} (i1 : Int32) (i2 : Int32) (hf : X_init i1 i2 = some res) : Runs C B2 0 0 0 [vr a, vi i1, vi i2, vn, vn] [] (a + 1, (a, 0, zrec) :: H) (Ans none (a + 1 + 9, (a, 9, res) :: H)) := by
  delta X_init at hf
  refine Runs.aloadN d2_0 rfl <| Runs.initO (W := 0) d2_1 w10 w11 w12 rfl (by decide) <| Runs.aloadN d2_4 rfl <| Runs.bipush d2_5 cb_8 <| Runs.newArr (j' := 1) (top' := a + 1 + 1) (k' := 1) (n' := 8) d2_7 d2_9 fA_0 w14 rfl w13 (Or.inl w15) rfl (by decide) ⟨by decide, by decide⟩ ⟨fun _ => rfl, fun _ => rfl⟩ rfl rfl rfl (by decide) <| Runs.aloadN d2_12 rfl <| Runs.bipush d2_13 cb_8 <| Runs.newArr (j' := 2) (top' := a + 1 + 2) (k' := 2) (n' := 16) d2_15 d2_17 fA_1 w17 rfl w16 (Or.inl w18) rfl (by decide) ⟨by decide, by decide⟩ ⟨fun _ => rfl, fun _ => rfl⟩ rfl rfl rfl (by decide) <| Runs.aloadN d2_20 rfl <| Runs.bipush d2_21 cb_64 <| Runs.newArr (j' := 3) (top' := a + 1 + 3) (k' := 3) (n' := 80) d2_23 d2_25 fA_2 w19 rfl w13 (Or.inl w20) rfl (by decide) ⟨by decide, by decide⟩ ⟨fun _ => rfl, fun _ => rfl⟩ rfl rfl rfl (by decide) <| Runs.aloadN d2_28 rfl <| ?_
  refine Runs.sipush d2_29 cs_512 <| Runs.newArr (j' := 4) (top' := a + 1 + 4) (k' := 4) (n' := 592) d2_32 d2_34 fA_3 w21 rfl w13 (Or.inl w22) rfl (by decide) ⟨by decide, by decide⟩ ⟨fun _ => rfl, fun _ => rfl⟩ rfl rfl rfl (by decide) <| Runs.aloadN d2_37 rfl <| Runs.sipush d2_38 cs_512 <| Runs.newArr (j' := 5) (top' := a + 1 + 5) (k' := 5) (n' := 1104) d2_41 d2_43 fA_4 w23 rfl w13 (Or.inl w24) rfl (by decide) ⟨by decide, by decide⟩ ⟨fun _ => rfl, fun _ => rfl⟩ rfl rfl rfl (by decide) <| Runs.aloadN d2_46 rfl <| Runs.sipush d2_47 cs_512 <| Runs.newArr (j' := 6) (top' := a + 1 + 6) (k' := 6) (n' := 1616) d2_50 d2_52 fA_5 w25 rfl w13 (Or.inl w26) rfl (by decide) ⟨by decide, by decide⟩ ⟨fun _ => rfl, fun _ => rfl⟩ rfl rfl rfl (by decide) <| Runs.aloadN d2_55 rfl <| Runs.sipush d2_56 cs_512 <| Runs.newArr (j' := 7) (top' := a + 1 + 7) (k' := 7) (n' := 2128) d2_59 d2_61 fA_6 w27 rfl w13 (Or.inl w28) rfl (by decide) ⟨by decide, by decide⟩ ⟨fun _ => rfl, fun _ => rfl⟩ rfl rfl rfl (by decide) <| Runs.aloadN d2_64 rfl <| ?_
  refine Runs.sipush d2_65 cs_512 <| Runs.newArr (j' := 8) (top' := a + 1 + 8) (k' := 8) (n' := 2640) d2_68 d2_70 fA_7 w29 rfl w13 (Or.inl w30) rfl (by decide) ⟨by decide, by decide⟩ ⟨fun _ => rfl, fun _ => rfl⟩ rfl rfl rfl (by decide) <| Runs.aloadN d2_73 rfl <| Runs.bipush d2_74 cb_8 <| Runs.newArr (j' := 9) (top' := a + 1 + 9) (k' := 9) (n' := 2648) d2_76 d2_78 fA_8 w31 rfl w13 (Or.inl w32) rfl (by decide) ⟨by decide, by decide⟩ ⟨fun _ => rfl, fun _ => rfl⟩ rfl rfl rfl (by decide) <| Runs.iloadN d2_81 rfl <| Runs.istoreN (P' := [vr a, vi i1, vi i2, vi i1, vn]) d2_82 (by decide) rfl <| Runs.iloadN d2_83 rfl <| Runs.iconst d2_84 ci_2 <| ?_
  refine ite_el hf (fun hc4 hf => ?_) (fun hc4 hf => ?_)
  · refine Runs.icN d2_85 (tlt hc4).2.1 <| ?_
    exact Runs.iconst d2_88 ci_2 <| Runs.istoreN (P' := [vr a, vi i1, vi i2, vi (2 : Int32), vn]) d2_89 (by decide) rfl <| Runs.forget [true, false, true, true, false] rfl <| X_init_b90_p zrec i2 (2 : Int32) hf
  · exact Runs.icY (pc' := 90) d2_85 (flt hc4).2.1 (by decide) <| Runs.forget [true, false, true, true, false] rfl <| X_init_b90_p zrec i2 i1 hf
theorem X_init_pay {C : Ctx} {a : Nat} {H : List (Nat × Nat × Rec)} {res : Rec} {i1 : Int32} {i2 : Int32} (hf : X_init i1 i2 = some res) : Pays C B2 [.ref a, .int i1, .int i2] (a + 1, (a, 0, zrec) :: H) (Ans none (a + 1 + 9, (a, 9, res) :: H)) :=
  Pays.of pnK (Nat.le_of_ble_eq_true rfl) (P := [vr a, vi i1, vi i2, vn, vn]) 2 rfl (X_init_p i1 i2 hf)
def X_validProc (ob : Rec) (i1 : Int32) : Option (Int32) :=
  if i1 < (0 : Int32) then
    some (0 : Int32)
  else
    if i1 < (gI ob 0) then
      some (1 : Int32)
    else
      some (0 : Int32)
set_option maxRecDepth 65536 in
set_option maxHeartbeats 4000000 in
theorem X_validProc_p {C : Ctx} {top : Nat} {a : Nat} {H : List (Nat × Nat × Rec)} {ob : Rec} {res : Int32} (i1 : Int32) (hf : X_validProc ob i1 = some res) : Runs C B5 0 0 0 [vr a, vi i1] [] (top, (a, 9, ob) :: H) (Ans (some (.int res)) (top, (a, 9, ob) :: H)) := by
  delta X_validProc at hf
  refine Runs.iloadN d5_0 rfl <| ?_
  refine ite_el hf (fun hc1 hf => ?_) (fun hc1 hf => ?_)
  · refine Runs.ifY (pc' := 16) d5_1 (tlt hc1).1 (by decide) <| ?_
    obtain rfl := Option.some.inj hf
    exact Runs.iconst d5_16 ci_0 <| Runs.retZ (y := (0 : Int32)) d5_17 rfl ⟨by decide, by decide⟩ rfl ⟨rfl, rfl⟩
  · refine Runs.ifN d5_1 (flt hc1).1 <| ?_
    refine Runs.iloadN d5_4 rfl <| Runs.aloadN d5_5 rfl <| Runs.getI d5_6 w33 fS_0 <| ?_
    refine ite_el hf (fun hc2 hf => ?_) (fun hc2 hf => ?_)
    · refine Runs.icN d5_9 (tlt hc2).2.1 <| ?_
      obtain rfl := Option.some.inj hf
      exact Runs.iconst d5_12 ci_1 <| Runs.goto (pc' := 17) d5_13 (by decide) <| Runs.retZ (y := (1 : Int32)) d5_17 rfl ⟨by decide, by decide⟩ rfl ⟨rfl, rfl⟩
    · refine Runs.icY (pc' := 16) d5_9 (flt hc2).2.1 (by decide) <| ?_
      obtain rfl := Option.some.inj hf
      exact Runs.iconst d5_16 ci_0 <| Runs.retZ (y := (0 : Int32)) d5_17 rfl ⟨by decide, by decide⟩ rfl ⟨rfl, rfl⟩
theorem X_validProc_pay {C : Ctx} {top : Nat} {a : Nat} {H : List (Nat × Nat × Rec)} {ob : Rec} {res : Int32} {i1 : Int32} (hf : X_validProc ob i1 = some res) : Pays C B5 [.ref a, .int i1] (top, (a, 9, ob) :: H) (Ans (some (.int res)) (top, (a, 9, ob) :: H)) :=
  Pays.of pnK (Nat.le_of_ble_eq_true rfl) (P := [vr a, vi i1]) 0 rfl (X_validProc_p i1 hf)
def X_delivered (ob : Rec) (i1 : Int32) (i2 : Int32) : Option (Int32) :=
  (X_validProc ob i1).bind fun r1 =>
  if r1 = (0 : Int32) then
    some (-1 : Int32)
  else
    (X_validProc ob i2).bind fun r4 =>
    if r4 = (0 : Int32) then
      some (-1 : Int32)
    else
      chk (64 : Int32) ((i1 * (8 : Int32)) + i2) <|
      some (gA ob 2 ((i1 * (8 : Int32)) + i2))
set_option maxRecDepth 65536 in
set_option maxHeartbeats 4000000 in
theorem X_delivered_p {C : Ctx} {top : Nat} {a : Nat} {H : List (Nat × Nat × Rec)} {ob : Rec} {res : Int32} (i1 : Int32) (i2 : Int32) (hf : X_delivered ob i1 i2 = some res) : Runs C B4 0 0 0 [vr a, vi i1, vi i2] [] (top, (a, 9, ob) :: H) (Ans (some (.int res)) (top, (a, 9, ob) :: H)) := by
  delta X_delivered at hf
  refine Runs.aloadN d4_0 rfl <| Runs.iloadN d4_1 rfl <| ?_
  refine bind_el hf fun r1 hg2 hf => ?_
  refine Runs.callP (N := B5) (W := 0) (as := [.int i1]) (S' := []) d4_2 w45 w46 w47 rfl cw5 ar5 rk4_5_0 (by decide) rfl rfl (X_validProc_pay hg2) <| ans1 <| ?_
  refine ite_el hf (fun hc3 hf => ?_) (fun hc3 hf => ?_)
  · refine Runs.ifY (pc' := 16) d4_5 (teq hc3).1 (by decide) <| ?_
    obtain rfl := Option.some.inj hf
    exact Runs.iconst d4_16 ci_m1 <| Runs.retI d4_17 rfl ⟨by decide, by decide⟩ ⟨rfl, rfl⟩
  · refine Runs.ifN d4_5 (feq hc3).1 <| ?_
    refine Runs.aloadN d4_8 rfl <| Runs.iloadN d4_9 rfl <| ?_
    refine bind_el hf fun r4 hg5 hf => ?_
    refine Runs.callP (N := B5) (W := 0) (as := [.int i2]) (S' := []) d4_10 w45 w46 w47 rfl cw5 ar5 rk4_5_0 (by decide) rfl rfl (X_validProc_pay hg5) <| ans1 <| ?_
    refine ite_el hf (fun hc6 hf => ?_) (fun hc6 hf => ?_)
    · refine Runs.ifN d4_13 (teq hc6).2 <| ?_
      obtain rfl := Option.some.inj hf
      exact Runs.iconst d4_16 ci_m1 <| Runs.retI d4_17 rfl ⟨by decide, by decide⟩ ⟨rfl, rfl⟩
    · refine Runs.ifY (pc' := 18) d4_13 (feq hc6).2 (by decide) <| ?_
      refine Runs.aloadN d4_18 rfl <| Runs.getA d4_19 fA_2 w19 (by decide) <| Runs.iloadN d4_22 rfl <| Runs.bipush d4_23 cb_8 <| Runs.imul d4_25 <| Runs.iloadN d4_26 rfl <| Runs.iadd d4_27 <| ?_
      refine chk_el hf fun hi7 hf => ?_
      obtain rfl := Option.some.inj hf
      exact Runs.ialoadA d4_28 fA_2 (by decide) hi7 <| Runs.retI d4_29 rfl ⟨by decide, by decide⟩ ⟨rfl, rfl⟩
theorem X_delivered_pay {C : Ctx} {top : Nat} {a : Nat} {H : List (Nat × Nat × Rec)} {ob : Rec} {res : Int32} {i1 : Int32} {i2 : Int32} (hf : X_delivered ob i1 i2 = some res) : Pays C B4 [.ref a, .int i1, .int i2] (top, (a, 9, ob) :: H) (Ans (some (.int res)) (top, (a, 9, ob) :: H)) :=
  Pays.of pnK (Nat.le_of_ble_eq_true rfl) (P := [vr a, vi i1, vi i2]) 0 rfl (X_delivered_p i1 i2 hf)
def X_deliveredAt (ob : Rec) (i1 : Int32) (i2 : Int32) : Option (Int32) :=
  (X_validProc ob i1).bind fun r1 =>
  if r1 = (0 : Int32) then
    some (-1 : Int32)
  else
    if i2 < (0 : Int32) then
      some (-1 : Int32)
    else
      chk (8 : Int32) i1 <|
      if i2 < (gA ob 8 i1) then
        if i2 < (64 : Int32) then
          chk (512 : Int32) ((i1 * (64 : Int32)) + i2) <|
          some (gA ob 7 ((i1 * (64 : Int32)) + i2))
        else
          some (-1 : Int32)
      else
        some (-1 : Int32)
set_option maxRecDepth 65536 in
set_option maxHeartbeats 4000000 in
theorem X_deliveredAt_p {C : Ctx} {top : Nat} {a : Nat} {H : List (Nat × Nat × Rec)} {ob : Rec} {res : Int32} (i1 : Int32) (i2 : Int32) (hf : X_deliveredAt ob i1 i2 = some res) : Runs C B13 0 0 0 [vr a, vi i1, vi i2] [] (top, (a, 9, ob) :: H) (Ans (some (.int res)) (top, (a, 9, ob) :: H)) := by
  delta X_deliveredAt at hf
  refine Runs.aloadN d13_0 rfl <| Runs.iloadN d13_1 rfl <| ?_
  refine bind_el hf fun r1 hg2 hf => ?_
  refine Runs.callP (N := B5) (W := 0) (as := [.int i1]) (S' := []) d13_2 w45 w46 w47 rfl cw5 ar5 rk13_5_0 (by decide) rfl rfl (X_validProc_pay hg2) <| ans1 <| ?_
  refine ite_el hf (fun hc3 hf => ?_) (fun hc3 hf => ?_)
  · refine Runs.ifN d13_5 (teq hc3).2 <| ?_
    obtain rfl := Option.some.inj hf
    exact Runs.iconst d13_8 ci_m1 <| Runs.retI d13_9 rfl ⟨by decide, by decide⟩ ⟨rfl, rfl⟩
  · refine Runs.ifY (pc' := 10) d13_5 (feq hc3).2 (by decide) <| ?_
    refine Runs.iloadN d13_10 rfl <| ?_
    refine ite_el hf (fun hc4 hf => ?_) (fun hc4 hf => ?_)
    · refine Runs.ifY (pc' := 30) d13_11 (tlt hc4).1 (by decide) <| ?_
      obtain rfl := Option.some.inj hf
      exact Runs.iconst d13_30 ci_m1 <| Runs.retI d13_31 rfl ⟨by decide, by decide⟩ ⟨rfl, rfl⟩
    · refine Runs.ifN d13_11 (flt hc4).1 <| ?_
      refine Runs.iloadN d13_14 rfl <| Runs.aloadN d13_15 rfl <| Runs.getA d13_16 fA_8 w31 (by decide) <| Runs.iloadN d13_19 rfl <| ?_
      refine chk_el hf fun hi5 hf => ?_
      refine Runs.ialoadA d13_20 fA_8 (by decide) hi5 <| ?_
      refine ite_el hf (fun hc6 hf => ?_) (fun hc6 hf => ?_)
      · refine Runs.icN d13_21 (tlt hc6).2.1 <| ?_
        refine Runs.iloadN d13_24 rfl <| Runs.bipush d13_25 cb_64 <| ?_
        refine ite_el hf (fun hc7 hf => ?_) (fun hc7 hf => ?_)
        · refine Runs.icY (pc' := 32) d13_27 (tlt hc7).1 (by decide) <| ?_
          refine Runs.aloadN d13_32 rfl <| Runs.getA d13_33 fA_7 w29 (by decide) <| Runs.iloadN d13_36 rfl <| Runs.bipush d13_37 cb_64 <| Runs.imul d13_39 <| Runs.iloadN d13_40 rfl <| Runs.iadd d13_41 <| ?_
          refine chk_el hf fun hi8 hf => ?_
          obtain rfl := Option.some.inj hf
          exact Runs.ialoadA d13_42 fA_7 (by decide) hi8 <| Runs.retI d13_43 rfl ⟨by decide, by decide⟩ ⟨rfl, rfl⟩
        · refine Runs.icN d13_27 (flt hc7).1 <| ?_
          obtain rfl := Option.some.inj hf
          exact Runs.iconst d13_30 ci_m1 <| Runs.retI d13_31 rfl ⟨by decide, by decide⟩ ⟨rfl, rfl⟩
      · refine Runs.icY (pc' := 30) d13_21 (flt hc6).2.1 (by decide) <| ?_
        obtain rfl := Option.some.inj hf
        exact Runs.iconst d13_30 ci_m1 <| Runs.retI d13_31 rfl ⟨by decide, by decide⟩ ⟨rfl, rfl⟩
theorem X_deliveredAt_pay {C : Ctx} {top : Nat} {a : Nat} {H : List (Nat × Nat × Rec)} {ob : Rec} {res : Int32} {i1 : Int32} {i2 : Int32} (hf : X_deliveredAt ob i1 i2 = some res) : Pays C B13 [.ref a, .int i1, .int i2] (top, (a, 9, ob) :: H) (Ans (some (.int res)) (top, (a, 9, ob) :: H)) :=
  Pays.of pnK (Nat.le_of_ble_eq_true rfl) (P := [vr a, vi i1, vi i2]) 0 rfl (X_deliveredAt_p i1 i2 hf)
def L_countBefore_w6 (NF : Nat) (ob : Rec) (k6 : Int32 → Int32 → Int32 → Int32 → Int32 → Option (Int32)) (i1 : Int32) (i2 : Int32) (i3 : Int32) (i4 : Int32) (i5 : Int32) : Option (Int32) :=
  if i5 < i2 then
    (X_deliveredAt ob i1 i5).bind fun r2 =>
    if (r2 / (16 : Int32)) = i3 then
      k6 i1 i2 i3 (i4 + (1 : Int32)) (i5 + (1 : Int32))
    else
      k6 i1 i2 i3 i4 (i5 + (1 : Int32))
  else
    some i4
def L_countBefore_l6 (NF : Nat) (ob : Rec) : Nat → Int32 → Int32 → Int32 → Int32 → Int32 → Option (Int32)
  | 0, _, _, _, _, _ => none
  | n + 1, i1, i2, i3, i4, i5 => L_countBefore_w6 NF ob (L_countBefore_l6 NF ob n) i1 i2 i3 i4 i5
set_option maxRecDepth 65536 in
set_option maxHeartbeats 4000000 in
theorem L_countBefore_w6_p {C : Ctx} {top : Nat} {a : Nat} {H : List (Nat × Nat × Rec)} {ob : Rec} {res : Int32} {NF : Nat} (k6 : Int32 → Int32 → Int32 → Int32 → Int32 → Option (Int32)) (hk6 : ∀ (i1 : Int32) (i2 : Int32) (i3 : Int32) (i4 : Int32) (i5 : Int32), k6 i1 i2 i3 i4 i5 = some res → Runs C B14 0 0 6 [vr a, vi i1, vi i2, vi i3, vi i4, vi i5] [] (top, (a, 9, ob) :: H) (Ans (some (.int res)) (top, (a, 9, ob) :: H))) (i1 : Int32) (i2 : Int32) (i3 : Int32) (i4 : Int32) (i5 : Int32) (hf : L_countBefore_w6 NF ob k6 i1 i2 i3 i4 i5 = some res) : Runs C B14 0 0 6 [vr a, vi i1, vi i2, vi i3, vi i4, vi i5] [] (top, (a, 9, ob) :: H) (Ans (some (.int res)) (top, (a, 9, ob) :: H)) := by
  delta L_countBefore_w6 at hf
  refine Runs.iload d14_6 rfl <| Runs.iloadN d14_8 rfl <| ?_
  refine ite_el hf (fun hc1 hf => ?_) (fun hc1 hf => ?_)
  · refine Runs.icN d14_9 (tlt hc1).2.1 <| ?_
    refine Runs.aloadN d14_12 rfl <| Runs.iloadN d14_13 rfl <| Runs.iload d14_14 rfl <| ?_
    refine bind_el hf fun r2 hg3 hf => ?_
    refine Runs.callV (N := B13) (W := 0) (as := [.int i1, .int i5]) (S' := []) d14_16 w80 w81 w82 w83 cw13 ar13 rk14_13_0 (by decide) rfl rfl (X_deliveredAt_pay hg3) <| ans1 <| Runs.bipush d14_19 cb_16 <| Runs.idiv d14_21 (by decide) <| Runs.iloadN d14_22 rfl <| ?_
    refine ite_el hf (fun hc4 hf => ?_) (fun hc4 hf => ?_)
    · refine Runs.icN d14_23 (teq hc4).2 <| ?_
      exact Runs.iinc (P' := [vr a, vi i1, vi i2, vi i3, vi (i4 + (1 : Int32)), vi i5]) d14_26 ci_1 rfl (by decide) rfl <| Runs.iinc (P' := [vr a, vi i1, vi i2, vi i3, vi (i4 + (1 : Int32)), vi (i5 + (1 : Int32))]) d14_29 ci_1 rfl (by decide) rfl <| Runs.goto (pc' := 6) d14_32 (by decide) <| hk6 i1 i2 i3 (i4 + (1 : Int32)) (i5 + (1 : Int32)) hf
    · refine Runs.icY (pc' := 29) d14_23 (feq hc4).2 (by decide) <| ?_
      exact Runs.iinc (P' := [vr a, vi i1, vi i2, vi i3, vi i4, vi (i5 + (1 : Int32))]) d14_29 ci_1 rfl (by decide) rfl <| Runs.goto (pc' := 6) d14_32 (by decide) <| hk6 i1 i2 i3 i4 (i5 + (1 : Int32)) hf
  · refine Runs.icY (pc' := 35) d14_9 (flt hc1).2.1 (by decide) <| ?_
    obtain rfl := Option.some.inj hf
    exact Runs.iload d14_35 rfl <| Runs.retI d14_37 rfl ⟨by decide, by decide⟩ ⟨rfl, rfl⟩
theorem L_countBefore_l6_p {C : Ctx} {top : Nat} {a : Nat} {H : List (Nat × Nat × Rec)} {ob : Rec} {res : Int32} {NF : Nat} (n : Nat) (i1 : Int32) (i2 : Int32) (i3 : Int32) (i4 : Int32) (i5 : Int32) (hf : L_countBefore_l6 NF ob n i1 i2 i3 i4 i5 = some res) : Runs C B14 0 0 6 [vr a, vi i1, vi i2, vi i3, vi i4, vi i5] [] (top, (a, 9, ob) :: H) (Ans (some (.int res)) (top, (a, 9, ob) :: H)) := by
  induction n generalizing i1 i2 i3 i4 i5 with
  | zero => cases (show (none : Option (Int32)) = some res from hf)
  | succ n ih => exact L_countBefore_w6_p (L_countBefore_l6 NF ob n) (fun i1 i2 i3 i4 i5 h => ih _ _ _ _ _ h) i1 i2 i3 i4 i5 hf
def L_countBefore (NF : Nat) (ob : Rec) (i1 : Int32) (i2 : Int32) (i3 : Int32) : Option (Int32) :=
  L_countBefore_l6 NF ob NF i1 i2 i3 (0 : Int32) (0 : Int32)
set_option maxRecDepth 65536 in
set_option maxHeartbeats 4000000 in
theorem L_countBefore_p {C : Ctx} {top : Nat} {a : Nat} {H : List (Nat × Nat × Rec)} {ob : Rec} {res : Int32} {NF : Nat} (i1 : Int32) (i2 : Int32) (i3 : Int32) (hf : L_countBefore NF ob i1 i2 i3 = some res) : Runs C B14 0 0 0 [vr a, vi i1, vi i2, vi i3, vn, vn] [] (top, (a, 9, ob) :: H) (Ans (some (.int res)) (top, (a, 9, ob) :: H)) := by
  delta L_countBefore at hf
  exact Runs.iconst d14_0 ci_0 <| Runs.istore (P' := [vr a, vi i1, vi i2, vi i3, vi (0 : Int32), vn]) d14_1 (by decide) rfl <| Runs.iconst d14_3 ci_0 <| Runs.istore (P' := [vr a, vi i1, vi i2, vi i3, vi (0 : Int32), vi (0 : Int32)]) d14_4 (by decide) rfl <| L_countBefore_l6_p NF i1 i2 i3 (0 : Int32) (0 : Int32) hf
theorem L_countBefore_pay {C : Ctx} {top : Nat} {a : Nat} {H : List (Nat × Nat × Rec)} {ob : Rec} {res : Int32} {NF : Nat} {i1 : Int32} {i2 : Int32} {i3 : Int32} (hf : L_countBefore NF ob i1 i2 i3 = some res) : Pays C B14 [.ref a, .int i1, .int i2, .int i3] (top, (a, 9, ob) :: H) (Ans (some (.int res)) (top, (a, 9, ob) :: H)) :=
  Pays.of pnL (Nat.le_of_ble_eq_true rfl) (P := [vr a, vi i1, vi i2, vi i3, vn, vn]) 2 rfl (L_countBefore_p i1 i2 i3 hf)
def X_exists (ob : Rec) (i1 : Int32) (i2 : Int32) : Option (Int32) :=
  if i1 < (0 : Int32) then
    some (0 : Int32)
  else
    if i1 < (gI ob 0) then
      if i2 < (1 : Int32) then
        some (0 : Int32)
      else
        chk (8 : Int32) i1 <|
        if (gA ob 0 i1) < i2 then
          some (0 : Int32)
        else
          some (1 : Int32)
    else
      some (0 : Int32)
set_option maxRecDepth 65536 in
set_option maxHeartbeats 4000000 in
theorem X_exists_p {C : Ctx} {top : Nat} {a : Nat} {H : List (Nat × Nat × Rec)} {ob : Rec} {res : Int32} (i1 : Int32) (i2 : Int32) (hf : X_exists ob i1 i2 = some res) : Runs C B16 0 0 0 [vr a, vi i1, vi i2] [] (top, (a, 9, ob) :: H) (Ans (some (.int res)) (top, (a, 9, ob) :: H)) := by
  delta X_exists at hf
  refine Runs.iloadN d16_0 rfl <| ?_
  refine ite_el hf (fun hc1 hf => ?_) (fun hc1 hf => ?_)
  · refine Runs.ifY (pc' := 31) d16_1 (tlt hc1).1 (by decide) <| ?_
    obtain rfl := Option.some.inj hf
    exact Runs.iconst d16_31 ci_0 <| Runs.retZ (y := (0 : Int32)) d16_32 rfl ⟨by decide, by decide⟩ rfl ⟨rfl, rfl⟩
  · refine Runs.ifN d16_1 (flt hc1).1 <| ?_
    refine Runs.iloadN d16_4 rfl <| Runs.aloadN d16_5 rfl <| Runs.getI d16_6 w33 fS_0 <| ?_
    refine ite_el hf (fun hc2 hf => ?_) (fun hc2 hf => ?_)
    · refine Runs.icN d16_9 (tlt hc2).2.1 <| ?_
      refine Runs.iloadN d16_12 rfl <| Runs.iconst d16_13 ci_1 <| ?_
      refine ite_el hf (fun hc3 hf => ?_) (fun hc3 hf => ?_)
      · refine Runs.icY (pc' := 31) d16_14 (tlt hc3).1 (by decide) <| ?_
        obtain rfl := Option.some.inj hf
        exact Runs.iconst d16_31 ci_0 <| Runs.retZ (y := (0 : Int32)) d16_32 rfl ⟨by decide, by decide⟩ rfl ⟨rfl, rfl⟩
      · refine Runs.icN d16_14 (flt hc3).1 <| ?_
        refine Runs.iloadN d16_17 rfl <| Runs.aloadN d16_18 rfl <| Runs.getA d16_19 fA_0 w14 (by decide) <| Runs.iloadN d16_22 rfl <| ?_
        refine chk_el hf fun hi4 hf => ?_
        refine Runs.ialoadA d16_23 fA_0 (by decide) hi4 <| ?_
        refine ite_el hf (fun hc5 hf => ?_) (fun hc5 hf => ?_)
        · refine Runs.icY (pc' := 31) d16_24 (tlt hc5).2.2.1 (by decide) <| ?_
          obtain rfl := Option.some.inj hf
          exact Runs.iconst d16_31 ci_0 <| Runs.retZ (y := (0 : Int32)) d16_32 rfl ⟨by decide, by decide⟩ rfl ⟨rfl, rfl⟩
        · refine Runs.icN d16_24 (flt hc5).2.2.1 <| ?_
          obtain rfl := Option.some.inj hf
          exact Runs.iconst d16_27 ci_1 <| Runs.goto (pc' := 32) d16_28 (by decide) <| Runs.retZ (y := (1 : Int32)) d16_32 rfl ⟨by decide, by decide⟩ rfl ⟨rfl, rfl⟩
    · refine Runs.icY (pc' := 31) d16_9 (flt hc2).2.1 (by decide) <| ?_
      obtain rfl := Option.some.inj hf
      exact Runs.iconst d16_31 ci_0 <| Runs.retZ (y := (0 : Int32)) d16_32 rfl ⟨by decide, by decide⟩ rfl ⟨rfl, rfl⟩
theorem X_exists_pay {C : Ctx} {top : Nat} {a : Nat} {H : List (Nat × Nat × Rec)} {ob : Rec} {res : Int32} {i1 : Int32} {i2 : Int32} (hf : X_exists ob i1 i2 = some res) : Pays C B16 [.ref a, .int i1, .int i2] (top, (a, 9, ob) :: H) (Ans (some (.int res)) (top, (a, 9, ob) :: H)) :=
  Pays.of pnK (Nat.le_of_ble_eq_true rfl) (P := [vr a, vi i1, vi i2]) 0 rfl (X_exists_p i1 i2 hf)
def X_msgIndex (ob : Rec) (i1 : Int32) (i2 : Int32) : Option (Int32) :=
  some (((i1 * (8 : Int32)) + i2) - (1 : Int32))
set_option maxRecDepth 65536 in
set_option maxHeartbeats 4000000 in
theorem X_msgIndex_p {C : Ctx} {top : Nat} {a : Nat} {H : List (Nat × Nat × Rec)} {ob : Rec} {res : Int32} (i1 : Int32) (i2 : Int32) (hf : X_msgIndex ob i1 i2 = some res) : Runs C B10 0 0 0 [vr a, vi i1, vi i2] [] (top, (a, 9, ob) :: H) (Ans (some (.int res)) (top, (a, 9, ob) :: H)) := by
  delta X_msgIndex at hf
  obtain rfl := Option.some.inj hf
  exact Runs.iloadN d10_0 rfl <| Runs.bipush d10_1 cb_8 <| Runs.imul d10_3 <| Runs.iloadN d10_4 rfl <| Runs.iadd d10_5 <| Runs.iconst d10_6 ci_1 <| Runs.isub d10_7 <| Runs.retI d10_8 rfl ⟨by decide, by decide⟩ ⟨rfl, rfl⟩
theorem X_msgIndex_pay {C : Ctx} {top : Nat} {a : Nat} {H : List (Nat × Nat × Rec)} {ob : Rec} {res : Int32} {i1 : Int32} {i2 : Int32} (hf : X_msgIndex ob i1 i2 = some res) : Pays C B10 [.ref a, .int i1, .int i2] (top, (a, 9, ob) :: H) (Ans (some (.int res)) (top, (a, 9, ob) :: H)) :=
  Pays.of pnK (Nat.le_of_ble_eq_true rfl) (P := [vr a, vi i1, vi i2]) 0 rfl (X_msgIndex_p i1 i2 hf)
def X_stamp (ob : Rec) (i1 : Int32) (i2 : Int32) (i3 : Int32) : Option (Int32) :=
  (X_exists ob i1 i2).bind fun r1 =>
  if r1 = (0 : Int32) then
    some (-1 : Int32)
  else
    (X_validProc ob i3).bind fun r4 =>
    if r4 = (0 : Int32) then
      some (-1 : Int32)
    else
      (X_msgIndex ob i1 i2).bind fun r7 =>
      chk (512 : Int32) ((r7 * (8 : Int32)) + i3) <|
      some (gA ob 4 ((r7 * (8 : Int32)) + i3))
set_option maxRecDepth 65536 in
set_option maxHeartbeats 4000000 in
theorem X_stamp_p {C : Ctx} {top : Nat} {a : Nat} {H : List (Nat × Nat × Rec)} {ob : Rec} {res : Int32} (i1 : Int32) (i2 : Int32) (i3 : Int32) (hf : X_stamp ob i1 i2 i3 = some res) : Runs C B15 0 0 0 [vr a, vi i1, vi i2, vi i3, vn] [] (top, (a, 9, ob) :: H) (Ans (some (.int res)) (top, (a, 9, ob) :: H)) := by
  delta X_stamp at hf
  refine Runs.aloadN d15_0 rfl <| Runs.iloadN d15_1 rfl <| Runs.iloadN d15_2 rfl <| ?_
  refine bind_el hf fun r1 hg2 hf => ?_
  refine Runs.callP (N := B16) (W := 0) (as := [.int i1, .int i2]) (S' := []) d15_3 w93 w94 w95 rfl cw16 ar16 rk15_16_0 (by decide) rfl rfl (X_exists_pay hg2) <| ans1 <| ?_
  refine ite_el hf (fun hc3 hf => ?_) (fun hc3 hf => ?_)
  · refine Runs.ifY (pc' := 17) d15_6 (teq hc3).1 (by decide) <| ?_
    obtain rfl := Option.some.inj hf
    exact Runs.iconst d15_17 ci_m1 <| Runs.retI d15_18 rfl ⟨by decide, by decide⟩ ⟨rfl, rfl⟩
  · refine Runs.ifN d15_6 (feq hc3).1 <| ?_
    refine Runs.aloadN d15_9 rfl <| Runs.iloadN d15_10 rfl <| ?_
    refine bind_el hf fun r4 hg5 hf => ?_
    refine Runs.callP (N := B5) (W := 0) (as := [.int i3]) (S' := []) d15_11 w45 w46 w47 rfl cw5 ar5 rk15_5_0 (by decide) rfl rfl (X_validProc_pay hg5) <| ans1 <| ?_
    refine ite_el hf (fun hc6 hf => ?_) (fun hc6 hf => ?_)
    · refine Runs.ifN d15_14 (teq hc6).2 <| ?_
      obtain rfl := Option.some.inj hf
      exact Runs.iconst d15_17 ci_m1 <| Runs.retI d15_18 rfl ⟨by decide, by decide⟩ ⟨rfl, rfl⟩
    · refine Runs.ifY (pc' := 19) d15_14 (feq hc6).2 (by decide) <| ?_
      refine Runs.aloadN d15_19 rfl <| Runs.iloadN d15_20 rfl <| Runs.iloadN d15_21 rfl <| ?_
      refine bind_el hf fun r7 hg8 hf => ?_
      refine Runs.callP (N := B10) (W := 0) (as := [.int i1, .int i2]) (S' := []) d15_22 w68 w69 w70 rfl cw10 ar10 rk15_10_0 (by decide) rfl rfl (X_msgIndex_pay hg8) <| ans1 <| Runs.istore (P' := [vr a, vi i1, vi i2, vi i3, vi r7]) d15_25 (by decide) rfl <| Runs.aloadN d15_27 rfl <| Runs.getA d15_28 fA_4 w23 (by decide) <| Runs.iload d15_31 rfl <| Runs.bipush d15_33 cb_8 <| Runs.imul d15_35 <| Runs.iloadN d15_36 rfl <| Runs.iadd d15_37 <| ?_
      refine chk_el hf fun hi9 hf => ?_
      obtain rfl := Option.some.inj hf
      exact Runs.ialoadA d15_38 fA_4 (by decide) hi9 <| Runs.retI d15_39 rfl ⟨by decide, by decide⟩ ⟨rfl, rfl⟩
theorem X_stamp_pay {C : Ctx} {top : Nat} {a : Nat} {H : List (Nat × Nat × Rec)} {ob : Rec} {res : Int32} {i1 : Int32} {i2 : Int32} {i3 : Int32} (hf : X_stamp ob i1 i2 i3 = some res) : Pays C B15 [.ref a, .int i1, .int i2, .int i3] (top, (a, 9, ob) :: H) (Ans (some (.int res)) (top, (a, 9, ob) :: H)) :=
  Pays.of pnK (Nat.le_of_ble_eq_true rfl) (P := [vr a, vi i1, vi i2, vi i3, vn]) 1 rfl (X_stamp_p i1 i2 i3 hf)
def X_sent (ob : Rec) (i1 : Int32) : Option (Int32) :=
  (X_validProc ob i1).bind fun r1 =>
  if r1 = (0 : Int32) then
    some (-1 : Int32)
  else
    chk (8 : Int32) i1 <|
    some (gA ob 0 i1)
set_option maxRecDepth 65536 in
set_option maxHeartbeats 4000000 in
theorem X_sent_p {C : Ctx} {top : Nat} {a : Nat} {H : List (Nat × Nat × Rec)} {ob : Rec} {res : Int32} (i1 : Int32) (hf : X_sent ob i1 = some res) : Runs C B6 0 0 0 [vr a, vi i1] [] (top, (a, 9, ob) :: H) (Ans (some (.int res)) (top, (a, 9, ob) :: H)) := by
  delta X_sent at hf
  refine Runs.aloadN d6_0 rfl <| Runs.iloadN d6_1 rfl <| ?_
  refine bind_el hf fun r1 hg2 hf => ?_
  refine Runs.callP (N := B5) (W := 0) (as := [.int i1]) (S' := []) d6_2 w45 w46 w47 rfl cw5 ar5 rk6_5_0 (by decide) rfl rfl (X_validProc_pay hg2) <| ans1 <| ?_
  refine ite_el hf (fun hc3 hf => ?_) (fun hc3 hf => ?_)
  · refine Runs.ifN d6_5 (teq hc3).2 <| ?_
    obtain rfl := Option.some.inj hf
    exact Runs.iconst d6_8 ci_m1 <| Runs.retI d6_9 rfl ⟨by decide, by decide⟩ ⟨rfl, rfl⟩
  · refine Runs.ifY (pc' := 10) d6_5 (feq hc3).2 (by decide) <| ?_
    refine Runs.aloadN d6_10 rfl <| Runs.getA d6_11 fA_0 w14 (by decide) <| Runs.iloadN d6_14 rfl <| ?_
    refine chk_el hf fun hi4 hf => ?_
    obtain rfl := Option.some.inj hf
    exact Runs.ialoadA d6_15 fA_0 (by decide) hi4 <| Runs.retI d6_16 rfl ⟨by decide, by decide⟩ ⟨rfl, rfl⟩
theorem X_sent_pay {C : Ctx} {top : Nat} {a : Nat} {H : List (Nat × Nat × Rec)} {ob : Rec} {res : Int32} {i1 : Int32} (hf : X_sent ob i1 = some res) : Pays C B6 [.ref a, .int i1] (top, (a, 9, ob) :: H) (Ans (some (.int res)) (top, (a, 9, ob) :: H)) :=
  Pays.of pnK (Nat.le_of_ble_eq_true rfl) (P := [vr a, vi i1]) 0 rfl (X_sent_p i1 hf)
def X_stateIndex (ob : Rec) (i1 : Int32) (i2 : Int32) (i3 : Int32) : Option (Int32) :=
  some ((((i1 * (64 : Int32)) + (i2 * (8 : Int32))) + i3) - (1 : Int32))
set_option maxRecDepth 65536 in
set_option maxHeartbeats 4000000 in
theorem X_stateIndex_p {C : Ctx} {top : Nat} {a : Nat} {H : List (Nat × Nat × Rec)} {ob : Rec} {res : Int32} (i1 : Int32) (i2 : Int32) (i3 : Int32) (hf : X_stateIndex ob i1 i2 i3 = some res) : Runs C B12 0 0 0 [vr a, vi i1, vi i2, vi i3] [] (top, (a, 9, ob) :: H) (Ans (some (.int res)) (top, (a, 9, ob) :: H)) := by
  delta X_stateIndex at hf
  obtain rfl := Option.some.inj hf
  exact Runs.iloadN d12_0 rfl <| Runs.bipush d12_1 cb_64 <| Runs.imul d12_3 <| Runs.iloadN d12_4 rfl <| Runs.bipush d12_5 cb_8 <| Runs.imul d12_7 <| Runs.iadd d12_8 <| Runs.iloadN d12_9 rfl <| Runs.iadd d12_10 <| Runs.iconst d12_11 ci_1 <| Runs.isub d12_12 <| Runs.retI d12_13 rfl ⟨by decide, by decide⟩ ⟨rfl, rfl⟩
theorem X_stateIndex_pay {C : Ctx} {top : Nat} {a : Nat} {H : List (Nat × Nat × Rec)} {ob : Rec} {res : Int32} {i1 : Int32} {i2 : Int32} {i3 : Int32} (hf : X_stateIndex ob i1 i2 i3 = some res) : Pays C B12 [.ref a, .int i1, .int i2, .int i3] (top, (a, 9, ob) :: H) (Ans (some (.int res)) (top, (a, 9, ob) :: H)) :=
  Pays.of pnK (Nat.le_of_ble_eq_true rfl) (P := [vr a, vi i1, vi i2, vi i3]) 0 rfl (X_stateIndex_p i1 i2 i3 hf)
def X_state (ob : Rec) (i1 : Int32) (i2 : Int32) (i3 : Int32) : Option (Int32) :=
  (X_validProc ob i1).bind fun r1 =>
  if r1 = (0 : Int32) then
    some (-1 : Int32)
  else
    (X_exists ob i2 i3).bind fun r4 =>
    if r4 = (0 : Int32) then
      some (-1 : Int32)
    else
      (X_stateIndex ob i1 i2 i3).bind fun r7 =>
      chk (512 : Int32) r7 <|
      some (gA ob 3 r7)
set_option maxRecDepth 65536 in
set_option maxHeartbeats 4000000 in
theorem X_state_p {C : Ctx} {top : Nat} {a : Nat} {H : List (Nat × Nat × Rec)} {ob : Rec} {res : Int32} (i1 : Int32) (i2 : Int32) (i3 : Int32) (hf : X_state ob i1 i2 i3 = some res) : Runs C B17 0 0 0 [vr a, vi i1, vi i2, vi i3, vn] [] (top, (a, 9, ob) :: H) (Ans (some (.int res)) (top, (a, 9, ob) :: H)) := by
  delta X_state at hf
  refine Runs.aloadN d17_0 rfl <| Runs.iloadN d17_1 rfl <| ?_
  refine bind_el hf fun r1 hg2 hf => ?_
  refine Runs.callP (N := B5) (W := 0) (as := [.int i1]) (S' := []) d17_2 w45 w46 w47 rfl cw5 ar5 rk17_5_0 (by decide) rfl rfl (X_validProc_pay hg2) <| ans1 <| ?_
  refine ite_el hf (fun hc3 hf => ?_) (fun hc3 hf => ?_)
  · refine Runs.ifY (pc' := 17) d17_5 (teq hc3).1 (by decide) <| ?_
    obtain rfl := Option.some.inj hf
    exact Runs.iconst d17_17 ci_m1 <| Runs.retI d17_18 rfl ⟨by decide, by decide⟩ ⟨rfl, rfl⟩
  · refine Runs.ifN d17_5 (feq hc3).1 <| ?_
    refine Runs.aloadN d17_8 rfl <| Runs.iloadN d17_9 rfl <| Runs.iloadN d17_10 rfl <| ?_
    refine bind_el hf fun r4 hg5 hf => ?_
    refine Runs.callP (N := B16) (W := 0) (as := [.int i2, .int i3]) (S' := []) d17_11 w93 w94 w95 rfl cw16 ar16 rk17_16_0 (by decide) rfl rfl (X_exists_pay hg5) <| ans1 <| ?_
    refine ite_el hf (fun hc6 hf => ?_) (fun hc6 hf => ?_)
    · refine Runs.ifN d17_14 (teq hc6).2 <| ?_
      obtain rfl := Option.some.inj hf
      exact Runs.iconst d17_17 ci_m1 <| Runs.retI d17_18 rfl ⟨by decide, by decide⟩ ⟨rfl, rfl⟩
    · refine Runs.ifY (pc' := 19) d17_14 (feq hc6).2 (by decide) <| ?_
      refine Runs.aloadN d17_19 rfl <| Runs.iloadN d17_20 rfl <| Runs.iloadN d17_21 rfl <| Runs.iloadN d17_22 rfl <| ?_
      refine bind_el hf fun r7 hg8 hf => ?_
      refine Runs.callP (N := B12) (W := 0) (as := [.int i1, .int i2, .int i3]) (S' := []) d17_23 w76 w77 w78 rfl cw12 ar12 rk17_12_0 (by decide) rfl rfl (X_stateIndex_pay hg8) <| ans1 <| Runs.istore (P' := [vr a, vi i1, vi i2, vi i3, vi r7]) d17_26 (by decide) rfl <| Runs.aloadN d17_28 rfl <| Runs.getA d17_29 fA_3 w21 (by decide) <| Runs.iload d17_32 rfl <| ?_
      refine chk_el hf fun hi9 hf => ?_
      obtain rfl := Option.some.inj hf
      exact Runs.ialoadA d17_34 fA_3 (by decide) hi9 <| Runs.retI d17_35 rfl ⟨by decide, by decide⟩ ⟨rfl, rfl⟩
theorem X_state_pay {C : Ctx} {top : Nat} {a : Nat} {H : List (Nat × Nat × Rec)} {ob : Rec} {res : Int32} {i1 : Int32} {i2 : Int32} {i3 : Int32} (hf : X_state ob i1 i2 i3 = some res) : Pays C B17 [.ref a, .int i1, .int i2, .int i3] (top, (a, 9, ob) :: H) (Ans (some (.int res)) (top, (a, 9, ob) :: H)) :=
  Pays.of pnK (Nat.le_of_ble_eq_true rfl) (P := [vr a, vi i1, vi i2, vi i3, vn]) 1 rfl (X_state_p i1 i2 i3 hf)
def X_isCrashed (ob : Rec) (i1 : Int32) : Option (Int32) :=
  (X_validProc ob i1).bind fun r1 =>
  if r1 = (0 : Int32) then
    some (0 : Int32)
  else
    chk (8 : Int32) i1 <|
    some ((gA ob 1 i1) &&& 1)
set_option maxRecDepth 65536 in
set_option maxHeartbeats 4000000 in
theorem X_isCrashed_p {C : Ctx} {top : Nat} {a : Nat} {H : List (Nat × Nat × Rec)} {ob : Rec} {res : Int32} (i1 : Int32) (hf : X_isCrashed ob i1 = some res) : Runs C B18 0 0 0 [vr a, vi i1] [] (top, (a, 9, ob) :: H) (Ans (some (.int res)) (top, (a, 9, ob) :: H)) := by
  delta X_isCrashed at hf
  refine Runs.aloadN d18_0 rfl <| Runs.iloadN d18_1 rfl <| ?_
  refine bind_el hf fun r1 hg2 hf => ?_
  refine Runs.callP (N := B5) (W := 0) (as := [.int i1]) (S' := []) d18_2 w45 w46 w47 rfl cw5 ar5 rk18_5_0 (by decide) rfl rfl (X_validProc_pay hg2) <| ans1 <| ?_
  refine ite_el hf (fun hc3 hf => ?_) (fun hc3 hf => ?_)
  · refine Runs.ifN d18_5 (teq hc3).2 <| ?_
    obtain rfl := Option.some.inj hf
    exact Runs.iconst d18_8 ci_0 <| Runs.retZ (y := (0 : Int32)) d18_9 rfl ⟨by decide, by decide⟩ rfl ⟨rfl, rfl⟩
  · refine Runs.ifY (pc' := 10) d18_5 (feq hc3).2 (by decide) <| ?_
    refine Runs.aloadN d18_10 rfl <| Runs.getA d18_11 fA_1 w17 (by decide) <| Runs.iloadN d18_14 rfl <| ?_
    refine chk_el hf fun hi4 hf => ?_
    obtain rfl := Option.some.inj hf
    exact Runs.baloadA d18_15 fA_1 (by decide) hi4 <| Runs.retZ (y := ((gA ob 1 i1) &&& 1)) d18_16 rfl ⟨by decide, by decide⟩ rfl ⟨rfl, rfl⟩
theorem X_isCrashed_pay {C : Ctx} {top : Nat} {a : Nat} {H : List (Nat × Nat × Rec)} {ob : Rec} {res : Int32} {i1 : Int32} (hf : X_isCrashed ob i1 = some res) : Pays C B18 [.ref a, .int i1] (top, (a, 9, ob) :: H) (Ans (some (.int res)) (top, (a, 9, ob) :: H)) :=
  Pays.of pnK (Nat.le_of_ble_eq_true rfl) (P := [vr a, vi i1]) 0 rfl (X_isCrashed_p i1 hf)
def L_has (ob : Rec) (i1 : Int32) (i2 : Int32) (i3 : Int32) : Option (Int32) :=
  (X_state ob i1 i2 i3).bind fun r1 =>
  if r1 = (2 : Int32) then
    some (1 : Int32)
  else
    if r1 = (3 : Int32) then
      some (1 : Int32)
    else
      some (0 : Int32)
set_option maxRecDepth 65536 in
set_option maxHeartbeats 4000000 in
theorem L_has_p {C : Ctx} {top : Nat} {a : Nat} {H : List (Nat × Nat × Rec)} {ob : Rec} {res : Int32} (i1 : Int32) (i2 : Int32) (i3 : Int32) (hf : L_has ob i1 i2 i3 = some res) : Runs C B19 0 0 0 [vr a, vi i1, vi i2, vi i3, vn] [] (top, (a, 9, ob) :: H) (Ans (some (.int res)) (top, (a, 9, ob) :: H)) := by
  delta L_has at hf
  refine Runs.aloadN d19_0 rfl <| Runs.iloadN d19_1 rfl <| Runs.iloadN d19_2 rfl <| Runs.iloadN d19_3 rfl <| ?_
  refine bind_el hf fun r1 hg2 hf => ?_
  refine Runs.callV (N := B17) (W := 0) (as := [.int i1, .int i2, .int i3]) (S' := []) d19_4 w97 w98 w99 w100 cw17 ar17 rk19_17_0 (by decide) rfl rfl (X_state_pay hg2) <| ans1 <| Runs.istore (P' := [vr a, vi i1, vi i2, vi i3, vi r1]) d19_7 (by decide) rfl <| Runs.iload d19_9 rfl <| Runs.iconst d19_11 ci_2 <| ?_
  refine ite_el hf (fun hc3 hf => ?_) (fun hc3 hf => ?_)
  · refine Runs.icY (pc' := 21) d19_12 (teq hc3).1 (by decide) <| ?_
    obtain rfl := Option.some.inj hf
    exact Runs.iconst d19_21 ci_1 <| Runs.goto (pc' := 26) d19_22 (by decide) <| Runs.retZ (y := (1 : Int32)) d19_26 rfl ⟨by decide, by decide⟩ rfl ⟨rfl, rfl⟩
  · refine Runs.icN d19_12 (feq hc3).1 <| ?_
    refine Runs.iload d19_15 rfl <| Runs.iconst d19_17 ci_3 <| ?_
    refine ite_el hf (fun hc4 hf => ?_) (fun hc4 hf => ?_)
    · refine Runs.icN d19_18 (teq hc4).2 <| ?_
      obtain rfl := Option.some.inj hf
      exact Runs.iconst d19_21 ci_1 <| Runs.goto (pc' := 26) d19_22 (by decide) <| Runs.retZ (y := (1 : Int32)) d19_26 rfl ⟨by decide, by decide⟩ rfl ⟨rfl, rfl⟩
    · refine Runs.icY (pc' := 25) d19_18 (feq hc4).2 (by decide) <| ?_
      obtain rfl := Option.some.inj hf
      exact Runs.iconst d19_25 ci_0 <| Runs.retZ (y := (0 : Int32)) d19_26 rfl ⟨by decide, by decide⟩ rfl ⟨rfl, rfl⟩
theorem L_has_pay {C : Ctx} {top : Nat} {a : Nat} {H : List (Nat × Nat × Rec)} {ob : Rec} {res : Int32} {i1 : Int32} {i2 : Int32} {i3 : Int32} (hf : L_has ob i1 i2 i3 = some res) : Pays C B19 [.ref a, .int i1, .int i2, .int i3] (top, (a, 9, ob) :: H) (Ans (some (.int res)) (top, (a, 9, ob) :: H)) :=
  Pays.of pnL (Nat.le_of_ble_eq_true rfl) (P := [vr a, vi i1, vi i2, vi i3, vn]) 1 rfl (L_has_p i1 i2 i3 hf)
def X_knownIndex (ob : Rec) (i1 : Int32) (i2 : Int32) (i3 : Int32) : Option (Int32) :=
  some (((i1 * (64 : Int32)) + (i2 * (8 : Int32))) + i3)
set_option maxRecDepth 65536 in
set_option maxHeartbeats 4000000 in
theorem X_knownIndex_p {C : Ctx} {top : Nat} {a : Nat} {H : List (Nat × Nat × Rec)} {ob : Rec} {res : Int32} (i1 : Int32) (i2 : Int32) (i3 : Int32) (hf : X_knownIndex ob i1 i2 i3 = some res) : Runs C B8 0 0 0 [vr a, vi i1, vi i2, vi i3] [] (top, (a, 9, ob) :: H) (Ans (some (.int res)) (top, (a, 9, ob) :: H)) := by
  delta X_knownIndex at hf
  obtain rfl := Option.some.inj hf
  exact Runs.iloadN d8_0 rfl <| Runs.bipush d8_1 cb_64 <| Runs.imul d8_3 <| Runs.iloadN d8_4 rfl <| Runs.bipush d8_5 cb_8 <| Runs.imul d8_7 <| Runs.iadd d8_8 <| Runs.iloadN d8_9 rfl <| Runs.iadd d8_10 <| Runs.retI d8_11 rfl ⟨by decide, by decide⟩ ⟨rfl, rfl⟩
theorem X_knownIndex_pay {C : Ctx} {top : Nat} {a : Nat} {H : List (Nat × Nat × Rec)} {ob : Rec} {res : Int32} {i1 : Int32} {i2 : Int32} {i3 : Int32} (hf : X_knownIndex ob i1 i2 i3 = some res) : Pays C B8 [.ref a, .int i1, .int i2, .int i3] (top, (a, 9, ob) :: H) (Ans (some (.int res)) (top, (a, 9, ob) :: H)) :=
  Pays.of pnK (Nat.le_of_ble_eq_true rfl) (P := [vr a, vi i1, vi i2, vi i3]) 0 rfl (X_knownIndex_p i1 i2 i3 hf)
def X_known (ob : Rec) (i1 : Int32) (i2 : Int32) (i3 : Int32) : Option (Int32) :=
  (X_validProc ob i1).bind fun r1 =>
  if r1 = (0 : Int32) then
    some (-1 : Int32)
  else
    (X_validProc ob i2).bind fun r4 =>
    if r4 = (0 : Int32) then
      some (-1 : Int32)
    else
      (X_validProc ob i3).bind fun r7 =>
      if r7 = (0 : Int32) then
        some (-1 : Int32)
      else
        (X_knownIndex ob i1 i2 i3).bind fun r10 =>
        chk (512 : Int32) r10 <|
        some (gA ob 6 r10)
set_option maxRecDepth 65536 in
set_option maxHeartbeats 4000000 in
theorem X_known_p {C : Ctx} {top : Nat} {a : Nat} {H : List (Nat × Nat × Rec)} {ob : Rec} {res : Int32} (i1 : Int32) (i2 : Int32) (i3 : Int32) (hf : X_known ob i1 i2 i3 = some res) : Runs C B7 0 0 0 [vr a, vi i1, vi i2, vi i3, vn] [] (top, (a, 9, ob) :: H) (Ans (some (.int res)) (top, (a, 9, ob) :: H)) := by
  delta X_known at hf
  refine Runs.aloadN d7_0 rfl <| Runs.iloadN d7_1 rfl <| ?_
  refine bind_el hf fun r1 hg2 hf => ?_
  refine Runs.callP (N := B5) (W := 0) (as := [.int i1]) (S' := []) d7_2 w45 w46 w47 rfl cw5 ar5 rk7_5_0 (by decide) rfl rfl (X_validProc_pay hg2) <| ans1 <| ?_
  refine ite_el hf (fun hc3 hf => ?_) (fun hc3 hf => ?_)
  · refine Runs.ifY (pc' := 24) d7_5 (teq hc3).1 (by decide) <| ?_
    obtain rfl := Option.some.inj hf
    exact Runs.iconst d7_24 ci_m1 <| Runs.retI d7_25 rfl ⟨by decide, by decide⟩ ⟨rfl, rfl⟩
  · refine Runs.ifN d7_5 (feq hc3).1 <| ?_
    refine Runs.aloadN d7_8 rfl <| Runs.iloadN d7_9 rfl <| ?_
    refine bind_el hf fun r4 hg5 hf => ?_
    refine Runs.callP (N := B5) (W := 0) (as := [.int i2]) (S' := []) d7_10 w45 w46 w47 rfl cw5 ar5 rk7_5_0 (by decide) rfl rfl (X_validProc_pay hg5) <| ans1 <| ?_
    refine ite_el hf (fun hc6 hf => ?_) (fun hc6 hf => ?_)
    · refine Runs.ifY (pc' := 24) d7_13 (teq hc6).1 (by decide) <| ?_
      obtain rfl := Option.some.inj hf
      exact Runs.iconst d7_24 ci_m1 <| Runs.retI d7_25 rfl ⟨by decide, by decide⟩ ⟨rfl, rfl⟩
    · refine Runs.ifN d7_13 (feq hc6).1 <| ?_
      refine Runs.aloadN d7_16 rfl <| Runs.iloadN d7_17 rfl <| ?_
      refine bind_el hf fun r7 hg8 hf => ?_
      refine Runs.callP (N := B5) (W := 0) (as := [.int i3]) (S' := []) d7_18 w45 w46 w47 rfl cw5 ar5 rk7_5_0 (by decide) rfl rfl (X_validProc_pay hg8) <| ans1 <| ?_
      refine ite_el hf (fun hc9 hf => ?_) (fun hc9 hf => ?_)
      · refine Runs.ifN d7_21 (teq hc9).2 <| ?_
        obtain rfl := Option.some.inj hf
        exact Runs.iconst d7_24 ci_m1 <| Runs.retI d7_25 rfl ⟨by decide, by decide⟩ ⟨rfl, rfl⟩
      · refine Runs.ifY (pc' := 26) d7_21 (feq hc9).2 (by decide) <| ?_
        refine Runs.aloadN d7_26 rfl <| Runs.iloadN d7_27 rfl <| Runs.iloadN d7_28 rfl <| Runs.iloadN d7_29 rfl <| ?_
        refine bind_el hf fun r10 hg11 hf => ?_
        refine Runs.callP (N := B8) (W := 0) (as := [.int i1, .int i2, .int i3]) (S' := []) d7_30 w59 w60 w61 rfl cw8 ar8 rk7_8_0 (by decide) rfl rfl (X_knownIndex_pay hg11) <| ans1 <| Runs.istore (P' := [vr a, vi i1, vi i2, vi i3, vi r10]) d7_33 (by decide) rfl <| Runs.aloadN d7_35 rfl <| Runs.getA d7_36 fA_6 w27 (by decide) <| Runs.iload d7_39 rfl <| ?_
        refine chk_el hf fun hi12 hf => ?_
        obtain rfl := Option.some.inj hf
        exact Runs.ialoadA d7_41 fA_6 (by decide) hi12 <| Runs.retI d7_42 rfl ⟨by decide, by decide⟩ ⟨rfl, rfl⟩
theorem X_known_pay {C : Ctx} {top : Nat} {a : Nat} {H : List (Nat × Nat × Rec)} {ob : Rec} {res : Int32} {i1 : Int32} {i2 : Int32} {i3 : Int32} (hf : X_known ob i1 i2 i3 = some res) : Pays C B7 [.ref a, .int i1, .int i2, .int i3] (top, (a, 9, ob) :: H) (Ans (some (.int res)) (top, (a, 9, ob) :: H)) :=
  Pays.of pnK (Nat.le_of_ble_eq_true rfl) (P := [vr a, vi i1, vi i2, vi i3, vn]) 1 rfl (X_known_p i1 i2 i3 hf)
def L_holds_w120 (NF : Nat) (ob : Rec) (k2 : Int32 → Int32 → Option (Int32)) (k37 : Int32 → Int32 → Int32 → Int32 → Option (Int32)) (k120 : Int32 → Int32 → Int32 → Int32 → Int32 → Int32 → Int32 → Option (Int32)) (i1 : Int32) (i2 : Int32) (i3 : Int32) (i4 : Int32) (i6 : Int32) (i7 : Int32) (i8 : Int32) : Option (Int32) :=
  if i8 < i1 then
    if i8 = i6 then
      k120 i1 i2 i3 i4 i6 i7 (i8 + (1 : Int32))
    else
      (L_countBefore NF ob i2 i4 i8).bind fun r19 =>
      (X_stamp ob i6 i7 i8).bind fun r21 =>
      if r19 < r21 then
        some (0 : Int32)
      else
        k120 i1 i2 i3 i4 i6 i7 (i8 + (1 : Int32))
  else
    k37 i1 i2 i3 (i4 + (1 : Int32))
def L_holds_l120 (NF : Nat) (ob : Rec) (k2 : Int32 → Int32 → Option (Int32)) (k37 : Int32 → Int32 → Int32 → Int32 → Option (Int32)) : Nat → Int32 → Int32 → Int32 → Int32 → Int32 → Int32 → Int32 → Option (Int32)
  | 0, _, _, _, _, _, _, _ => none
  | n + 1, i1, i2, i3, i4, i6, i7, i8 => L_holds_w120 NF ob k2 k37 (L_holds_l120 NF ob k2 k37 n) i1 i2 i3 i4 i6 i7 i8
set_option maxRecDepth 65536 in
set_option maxHeartbeats 4000000 in
theorem L_holds_w120_p {C : Ctx} {top : Nat} {a : Nat} {H : List (Nat × Nat × Rec)} {ob : Rec} {res : Int32} {NF : Nat} (k2 : Int32 → Int32 → Option (Int32)) (hk2 : ∀ (i1 : Int32) (i2 : Int32), k2 i1 i2 = some res → Runs C B3 0 0 2 [vr a, vi i1, vi i2, vn, vn, vn, vn, vn, vn, vn] [] (top, (a, 9, ob) :: H) (Ans (some (.int res)) (top, (a, 9, ob) :: H))) (k37 : Int32 → Int32 → Int32 → Int32 → Option (Int32)) (hk37 : ∀ (i1 : Int32) (i2 : Int32) (i3 : Int32) (i4 : Int32), k37 i1 i2 i3 i4 = some res → Runs C B3 0 0 37 [vr a, vi i1, vi i2, vi i3, vi i4, vn, vn, vn, vn, vn] [] (top, (a, 9, ob) :: H) (Ans (some (.int res)) (top, (a, 9, ob) :: H))) (k120 : Int32 → Int32 → Int32 → Int32 → Int32 → Int32 → Int32 → Option (Int32)) (hk120 : ∀ (i1 : Int32) (i2 : Int32) (i3 : Int32) (i4 : Int32) (i6 : Int32) (i7 : Int32) (i8 : Int32), k120 i1 i2 i3 i4 i6 i7 i8 = some res → Runs C B3 0 0 120 [vr a, vi i1, vi i2, vi i3, vi i4, vn, vi i6, vi i7, vi i8, vn] [] (top, (a, 9, ob) :: H) (Ans (some (.int res)) (top, (a, 9, ob) :: H))) (i1 : Int32) (i2 : Int32) (i3 : Int32) (i4 : Int32) (i6 : Int32) (i7 : Int32) (i8 : Int32) (hf : L_holds_w120 NF ob k2 k37 k120 i1 i2 i3 i4 i6 i7 i8 = some res) : Runs C B3 0 0 120 [vr a, vi i1, vi i2, vi i3, vi i4, vn, vi i6, vi i7, vi i8, vn] [] (top, (a, 9, ob) :: H) (Ans (some (.int res)) (top, (a, 9, ob) :: H)) := by
  delta L_holds_w120 at hf
  refine Runs.iload d3_120 rfl <| Runs.iloadN d3_122 rfl <| ?_
  refine ite_el hf (fun hc17 hf => ?_) (fun hc17 hf => ?_)
  · refine Runs.icN d3_123 (tlt hc17).2.1 <| ?_
    refine Runs.iload d3_126 rfl <| Runs.iload d3_128 rfl <| ?_
    refine ite_el hf (fun hc18 hf => ?_) (fun hc18 hf => ?_)
    · refine Runs.icN d3_130 (teq hc18).2 <| ?_
      exact Runs.goto (pc' := 160) d3_133 (by decide) <| Runs.iinc (P' := [vr a, vi i1, vi i2, vi i3, vi i4, vn, vi i6, vi i7, vi (i8 + (1 : Int32)), vn]) d3_160 ci_1 rfl (by decide) rfl <| Runs.goto (pc' := 120) d3_163 (by decide) <| hk120 i1 i2 i3 i4 i6 i7 (i8 + (1 : Int32)) hf
    · refine Runs.icY (pc' := 136) d3_130 (feq hc18).2 (by decide) <| ?_
      refine Runs.aloadN d3_136 rfl <| Runs.iloadN d3_137 rfl <| Runs.iload d3_138 rfl <| Runs.iload d3_140 rfl <| ?_
      refine bind_el hf fun r19 hg20 hf => ?_
      refine Runs.callS (N := B14) (W := 0) (as := [.ref a, .int i2, .int i4, .int i8]) (S' := []) d3_142 w85 w86 cw14 ar14 rk3_14_0 (by decide) rfl rfl (L_countBefore_pay hg20) <| ans1 <| Runs.aloadN d3_145 rfl <| Runs.iload d3_146 rfl <| Runs.iload d3_148 rfl <| Runs.iload d3_150 rfl <| ?_
      refine bind_el hf fun r21 hg22 hf => ?_
      refine Runs.callV (N := B15) (W := 1) (as := [.int i6, .int i7, .int i8]) (S' := [.int r19]) d3_152 w88 w89 w90 w91 cw15 ar15 rk3_15_1 (by decide) rfl rfl (X_stamp_pay hg22) <| ans1 <| ?_
      refine ite_el hf (fun hc23 hf => ?_) (fun hc23 hf => ?_)
      · refine Runs.icN d3_155 (tlt hc23).2.1 <| ?_
        obtain rfl := Option.some.inj hf
        exact Runs.iconst d3_158 ci_0 <| Runs.retZ (y := (0 : Int32)) d3_159 rfl ⟨by decide, by decide⟩ rfl ⟨rfl, rfl⟩
      · refine Runs.icY (pc' := 160) d3_155 (flt hc23).2.1 (by decide) <| ?_
        exact Runs.iinc (P' := [vr a, vi i1, vi i2, vi i3, vi i4, vn, vi i6, vi i7, vi (i8 + (1 : Int32)), vn]) d3_160 ci_1 rfl (by decide) rfl <| Runs.goto (pc' := 120) d3_163 (by decide) <| hk120 i1 i2 i3 i4 i6 i7 (i8 + (1 : Int32)) hf
  · refine Runs.icY (pc' := 166) d3_123 (flt hc17).2.1 (by decide) <| ?_
    exact Runs.iinc (P' := [vr a, vi i1, vi i2, vi i3, vi (i4 + (1 : Int32)), vn, vi i6, vi i7, vi i8, vn]) d3_166 ci_1 rfl (by decide) rfl <| Runs.goto (pc' := 37) d3_169 (by decide) <| Runs.forget [true, true, true, true, true, false, false, false, false, false] rfl <| hk37 i1 i2 i3 (i4 + (1 : Int32)) hf
theorem L_holds_l120_p {C : Ctx} {top : Nat} {a : Nat} {H : List (Nat × Nat × Rec)} {ob : Rec} {res : Int32} {NF : Nat} (k2 : Int32 → Int32 → Option (Int32)) (hk2 : ∀ (i1 : Int32) (i2 : Int32), k2 i1 i2 = some res → Runs C B3 0 0 2 [vr a, vi i1, vi i2, vn, vn, vn, vn, vn, vn, vn] [] (top, (a, 9, ob) :: H) (Ans (some (.int res)) (top, (a, 9, ob) :: H))) (k37 : Int32 → Int32 → Int32 → Int32 → Option (Int32)) (hk37 : ∀ (i1 : Int32) (i2 : Int32) (i3 : Int32) (i4 : Int32), k37 i1 i2 i3 i4 = some res → Runs C B3 0 0 37 [vr a, vi i1, vi i2, vi i3, vi i4, vn, vn, vn, vn, vn] [] (top, (a, 9, ob) :: H) (Ans (some (.int res)) (top, (a, 9, ob) :: H))) (n : Nat) (i1 : Int32) (i2 : Int32) (i3 : Int32) (i4 : Int32) (i6 : Int32) (i7 : Int32) (i8 : Int32) (hf : L_holds_l120 NF ob k2 k37 n i1 i2 i3 i4 i6 i7 i8 = some res) : Runs C B3 0 0 120 [vr a, vi i1, vi i2, vi i3, vi i4, vn, vi i6, vi i7, vi i8, vn] [] (top, (a, 9, ob) :: H) (Ans (some (.int res)) (top, (a, 9, ob) :: H)) := by
  induction n generalizing i1 i2 i3 i4 i6 i7 i8 with
  | zero => cases (show (none : Option (Int32)) = some res from hf)
  | succ n ih => exact L_holds_w120_p k2 hk2 k37 hk37 (L_holds_l120 NF ob k2 k37 n) (fun i1 i2 i3 i4 i6 i7 i8 h => ih _ _ _ _ _ _ _ h) i1 i2 i3 i4 i6 i7 i8 hf
def L_holds_w37 (NF : Nat) (ob : Rec) (k2 : Int32 → Int32 → Option (Int32)) (k37 : Int32 → Int32 → Int32 → Int32 → Option (Int32)) (i1 : Int32) (i2 : Int32) (i3 : Int32) (i4 : Int32) : Option (Int32) :=
  if i4 < i3 then
    (X_deliveredAt ob i2 i4).bind fun r6 =>
    if r6 < (0 : Int32) then
      some (0 : Int32)
    else
      if (r6 / (16 : Int32)) < i1 then
        if (r6 % (16 : Int32)) < (1 : Int32) then
          some (0 : Int32)
        else
          (X_delivered ob i2 (r6 / (16 : Int32))).bind fun r11 =>
          if r11 < (r6 % (16 : Int32)) then
            some (0 : Int32)
          else
            (L_countBefore NF ob i2 i4 (r6 / (16 : Int32))).bind fun r14 =>
            if (r6 % (16 : Int32)) = ((1 : Int32) + r14) then
              L_holds_l120 NF ob k2 k37 NF i1 i2 i3 i4 (r6 / (16 : Int32)) (r6 % (16 : Int32)) (0 : Int32)
            else
              some (0 : Int32)
      else
        some (0 : Int32)
  else
    k2 i1 (i2 + (1 : Int32))
def L_holds_l37 (NF : Nat) (ob : Rec) (k2 : Int32 → Int32 → Option (Int32)) : Nat → Int32 → Int32 → Int32 → Int32 → Option (Int32)
  | 0, _, _, _, _ => none
  | n + 1, i1, i2, i3, i4 => L_holds_w37 NF ob k2 (L_holds_l37 NF ob k2 n) i1 i2 i3 i4
set_option maxRecDepth 65536 in
set_option maxHeartbeats 4000000 in
theorem L_holds_w37_p {C : Ctx} {top : Nat} {a : Nat} {H : List (Nat × Nat × Rec)} {ob : Rec} {res : Int32} {NF : Nat} (k2 : Int32 → Int32 → Option (Int32)) (hk2 : ∀ (i1 : Int32) (i2 : Int32), k2 i1 i2 = some res → Runs C B3 0 0 2 [vr a, vi i1, vi i2, vn, vn, vn, vn, vn, vn, vn] [] (top, (a, 9, ob) :: H) (Ans (some (.int res)) (top, (a, 9, ob) :: H))) (k37 : Int32 → Int32 → Int32 → Int32 → Option (Int32)) (hk37 : ∀ (i1 : Int32) (i2 : Int32) (i3 : Int32) (i4 : Int32), k37 i1 i2 i3 i4 = some res → Runs C B3 0 0 37 [vr a, vi i1, vi i2, vi i3, vi i4, vn, vn, vn, vn, vn] [] (top, (a, 9, ob) :: H) (Ans (some (.int res)) (top, (a, 9, ob) :: H))) (i1 : Int32) (i2 : Int32) (i3 : Int32) (i4 : Int32) (hf : L_holds_w37 NF ob k2 k37 i1 i2 i3 i4 = some res) : Runs C B3 0 0 37 [vr a, vi i1, vi i2, vi i3, vi i4, vn, vn, vn, vn, vn] [] (top, (a, 9, ob) :: H) (Ans (some (.int res)) (top, (a, 9, ob) :: H)) := by
  delta L_holds_w37 at hf
  refine Runs.iload d3_37 rfl <| Runs.iloadN d3_39 rfl <| ?_
  refine ite_el hf (fun hc5 hf => ?_) (fun hc5 hf => ?_)
  · refine Runs.icN d3_40 (tlt hc5).2.1 <| ?_
    refine Runs.aloadN d3_43 rfl <| Runs.iloadN d3_44 rfl <| Runs.iload d3_45 rfl <| ?_
    refine bind_el hf fun r6 hg7 hf => ?_
    refine Runs.callV (N := B13) (W := 0) (as := [.int i2, .int i4]) (S' := []) d3_47 w80 w81 w82 w83 cw13 ar13 rk3_13_0 (by decide) rfl rfl (X_deliveredAt_pay hg7) <| ans1 <| Runs.istore (P' := [vr a, vi i1, vi i2, vi i3, vi i4, vi r6, vn, vn, vn, vn]) d3_50 (by decide) rfl <| Runs.iload d3_52 rfl <| ?_
    refine ite_el hf (fun hc8 hf => ?_) (fun hc8 hf => ?_)
    · refine Runs.ifN d3_54 (tlt hc8).2.1 <| ?_
      obtain rfl := Option.some.inj hf
      exact Runs.iconst d3_57 ci_0 <| Runs.retZ (y := (0 : Int32)) d3_58 rfl ⟨by decide, by decide⟩ rfl ⟨rfl, rfl⟩
    · refine Runs.ifY (pc' := 59) d3_54 (flt hc8).2.1 (by decide) <| ?_
      refine Runs.iload d3_59 rfl <| Runs.bipush d3_61 cb_16 <| Runs.idiv d3_63 (by decide) <| Runs.istore (P' := [vr a, vi i1, vi i2, vi i3, vi i4, vi r6, vi (r6 / (16 : Int32)), vn, vn, vn]) d3_64 (by decide) rfl <| Runs.iload d3_66 rfl <| Runs.bipush d3_68 cb_16 <| Runs.irem d3_70 (by decide) <| Runs.istore (P' := [vr a, vi i1, vi i2, vi i3, vi i4, vi r6, vi (r6 / (16 : Int32)), vi (r6 % (16 : Int32)), vn, vn]) d3_71 (by decide) rfl <| Runs.iload d3_73 rfl <| Runs.iloadN d3_75 rfl <| ?_
      refine ite_el hf (fun hc9 hf => ?_) (fun hc9 hf => ?_)
      · refine Runs.icN d3_76 (tlt hc9).2.1 <| ?_
        refine Runs.iload d3_79 rfl <| Runs.iconst d3_81 ci_1 <| ?_
        refine ite_el hf (fun hc10 hf => ?_) (fun hc10 hf => ?_)
        · refine Runs.icY (pc' := 97) d3_82 (tlt hc10).1 (by decide) <| ?_
          obtain rfl := Option.some.inj hf
          exact Runs.iconst d3_97 ci_0 <| Runs.retZ (y := (0 : Int32)) d3_98 rfl ⟨by decide, by decide⟩ rfl ⟨rfl, rfl⟩
        · refine Runs.icN d3_82 (flt hc10).1 <| ?_
          refine Runs.iload d3_85 rfl <| Runs.aloadN d3_87 rfl <| Runs.iloadN d3_88 rfl <| Runs.iload d3_89 rfl <| ?_
          refine bind_el hf fun r11 hg12 hf => ?_
          refine Runs.callV (N := B4) (W := 1) (as := [.int i2, .int (r6 / (16 : Int32))]) (S' := [.int (r6 % (16 : Int32))]) d3_91 w40 w41 w42 w43 cw4 ar4 rk3_4_1 (by decide) rfl rfl (X_delivered_pay hg12) <| ans1 <| ?_
          refine ite_el hf (fun hc13 hf => ?_) (fun hc13 hf => ?_)
          · refine Runs.icN d3_94 (tlt hc13).2.2.2 <| ?_
            obtain rfl := Option.some.inj hf
            exact Runs.iconst d3_97 ci_0 <| Runs.retZ (y := (0 : Int32)) d3_98 rfl ⟨by decide, by decide⟩ rfl ⟨rfl, rfl⟩
          · refine Runs.icY (pc' := 99) d3_94 (flt hc13).2.2.2 (by decide) <| ?_
            refine Runs.iload d3_99 rfl <| Runs.iconst d3_101 ci_1 <| Runs.aloadN d3_102 rfl <| Runs.iloadN d3_103 rfl <| Runs.iload d3_104 rfl <| Runs.iload d3_106 rfl <| ?_
            refine bind_el hf fun r14 hg15 hf => ?_
            refine Runs.callS (N := B14) (W := 2) (as := [.ref a, .int i2, .int i4, .int (r6 / (16 : Int32))]) (S' := [.int (1 : Int32), .int (r6 % (16 : Int32))]) d3_108 w85 w86 cw14 ar14 rk3_14_2 (by decide) rfl rfl (L_countBefore_pay hg15) <| ans1 <| Runs.iadd d3_111 <| ?_
            refine ite_el hf (fun hc16 hf => ?_) (fun hc16 hf => ?_)
            · refine Runs.icY (pc' := 117) d3_112 (teq hc16).1 (by decide) <| ?_
              exact Runs.iconst d3_117 ci_0 <| Runs.istore (P' := [vr a, vi i1, vi i2, vi i3, vi i4, vi r6, vi (r6 / (16 : Int32)), vi (r6 % (16 : Int32)), vi (0 : Int32), vn]) d3_118 (by decide) rfl <| Runs.forget [true, true, true, true, true, false, true, true, true, false] rfl <| L_holds_l120_p k2 hk2 k37 hk37 NF i1 i2 i3 i4 (r6 / (16 : Int32)) (r6 % (16 : Int32)) (0 : Int32) hf
            · refine Runs.icN d3_112 (feq hc16).1 <| ?_
              obtain rfl := Option.some.inj hf
              exact Runs.iconst d3_115 ci_0 <| Runs.retZ (y := (0 : Int32)) d3_116 rfl ⟨by decide, by decide⟩ rfl ⟨rfl, rfl⟩
      · refine Runs.icY (pc' := 97) d3_76 (flt hc9).2.1 (by decide) <| ?_
        obtain rfl := Option.some.inj hf
        exact Runs.iconst d3_97 ci_0 <| Runs.retZ (y := (0 : Int32)) d3_98 rfl ⟨by decide, by decide⟩ rfl ⟨rfl, rfl⟩
  · refine Runs.icY (pc' := 172) d3_40 (flt hc5).2.1 (by decide) <| ?_
    exact Runs.iinc (P' := [vr a, vi i1, vi (i2 + (1 : Int32)), vi i3, vi i4, vn, vn, vn, vn, vn]) d3_172 ci_1 rfl (by decide) rfl <| Runs.goto (pc' := 2) d3_175 (by decide) <| Runs.forget [true, true, true, false, false, false, false, false, false, false] rfl <| hk2 i1 (i2 + (1 : Int32)) hf
theorem L_holds_l37_p {C : Ctx} {top : Nat} {a : Nat} {H : List (Nat × Nat × Rec)} {ob : Rec} {res : Int32} {NF : Nat} (k2 : Int32 → Int32 → Option (Int32)) (hk2 : ∀ (i1 : Int32) (i2 : Int32), k2 i1 i2 = some res → Runs C B3 0 0 2 [vr a, vi i1, vi i2, vn, vn, vn, vn, vn, vn, vn] [] (top, (a, 9, ob) :: H) (Ans (some (.int res)) (top, (a, 9, ob) :: H))) (n : Nat) (i1 : Int32) (i2 : Int32) (i3 : Int32) (i4 : Int32) (hf : L_holds_l37 NF ob k2 n i1 i2 i3 i4 = some res) : Runs C B3 0 0 37 [vr a, vi i1, vi i2, vi i3, vi i4, vn, vn, vn, vn, vn] [] (top, (a, 9, ob) :: H) (Ans (some (.int res)) (top, (a, 9, ob) :: H)) := by
  induction n generalizing i1 i2 i3 i4 with
  | zero => cases (show (none : Option (Int32)) = some res from hf)
  | succ n ih => exact L_holds_w37_p k2 hk2 (L_holds_l37 NF ob k2 n) (fun i1 i2 i3 i4 h => ih _ _ _ _ h) i1 i2 i3 i4 hf
def L_holds_w12 (NF : Nat) (ob : Rec) (k2 : Int32 → Int32 → Option (Int32)) (k12 : Int32 → Int32 → Int32 → Int32 → Option (Int32)) (i1 : Int32) (i2 : Int32) (i3 : Int32) (i4 : Int32) : Option (Int32) :=
  if i4 < i1 then
    (X_delivered ob i2 i4).bind fun r3 =>
    k12 i1 i2 (i3 + r3) (i4 + (1 : Int32))
  else
    L_holds_l37 NF ob k2 NF i1 i2 i3 (0 : Int32)
def L_holds_l12 (NF : Nat) (ob : Rec) (k2 : Int32 → Int32 → Option (Int32)) : Nat → Int32 → Int32 → Int32 → Int32 → Option (Int32)
  | 0, _, _, _, _ => none
  | n + 1, i1, i2, i3, i4 => L_holds_w12 NF ob k2 (L_holds_l12 NF ob k2 n) i1 i2 i3 i4
set_option maxRecDepth 65536 in
set_option maxHeartbeats 4000000 in
theorem L_holds_w12_p {C : Ctx} {top : Nat} {a : Nat} {H : List (Nat × Nat × Rec)} {ob : Rec} {res : Int32} {NF : Nat} (k2 : Int32 → Int32 → Option (Int32)) (hk2 : ∀ (i1 : Int32) (i2 : Int32), k2 i1 i2 = some res → Runs C B3 0 0 2 [vr a, vi i1, vi i2, vn, vn, vn, vn, vn, vn, vn] [] (top, (a, 9, ob) :: H) (Ans (some (.int res)) (top, (a, 9, ob) :: H))) (k12 : Int32 → Int32 → Int32 → Int32 → Option (Int32)) (hk12 : ∀ (i1 : Int32) (i2 : Int32) (i3 : Int32) (i4 : Int32), k12 i1 i2 i3 i4 = some res → Runs C B3 0 0 12 [vr a, vi i1, vi i2, vi i3, vi i4, vn, vn, vn, vn, vn] [] (top, (a, 9, ob) :: H) (Ans (some (.int res)) (top, (a, 9, ob) :: H))) (i1 : Int32) (i2 : Int32) (i3 : Int32) (i4 : Int32) (hf : L_holds_w12 NF ob k2 k12 i1 i2 i3 i4 = some res) : Runs C B3 0 0 12 [vr a, vi i1, vi i2, vi i3, vi i4, vn, vn, vn, vn, vn] [] (top, (a, 9, ob) :: H) (Ans (some (.int res)) (top, (a, 9, ob) :: H)) := by
  delta L_holds_w12 at hf
  refine Runs.iload d3_12 rfl <| Runs.iloadN d3_14 rfl <| ?_
  refine ite_el hf (fun hc2 hf => ?_) (fun hc2 hf => ?_)
  · refine Runs.icN d3_15 (tlt hc2).2.1 <| ?_
    refine Runs.iloadN d3_18 rfl <| Runs.aloadN d3_19 rfl <| Runs.iloadN d3_20 rfl <| Runs.iload d3_21 rfl <| ?_
    refine bind_el hf fun r3 hg4 hf => ?_
    exact Runs.callV (N := B4) (W := 1) (as := [.int i2, .int i4]) (S' := [.int i3]) d3_23 w40 w41 w42 w43 cw4 ar4 rk3_4_1 (by decide) rfl rfl (X_delivered_pay hg4) <| ans1 <| Runs.iadd d3_26 <| Runs.istoreN (P' := [vr a, vi i1, vi i2, vi (i3 + r3), vi i4, vn, vn, vn, vn, vn]) d3_27 (by decide) rfl <| Runs.iinc (P' := [vr a, vi i1, vi i2, vi (i3 + r3), vi (i4 + (1 : Int32)), vn, vn, vn, vn, vn]) d3_28 ci_1 rfl (by decide) rfl <| Runs.goto (pc' := 12) d3_31 (by decide) <| hk12 i1 i2 (i3 + r3) (i4 + (1 : Int32)) hf
  · refine Runs.icY (pc' := 34) d3_15 (flt hc2).2.1 (by decide) <| ?_
    exact Runs.iconst d3_34 ci_0 <| Runs.istore (P' := [vr a, vi i1, vi i2, vi i3, vi (0 : Int32), vn, vn, vn, vn, vn]) d3_35 (by decide) rfl <| L_holds_l37_p k2 hk2 NF i1 i2 i3 (0 : Int32) hf
theorem L_holds_l12_p {C : Ctx} {top : Nat} {a : Nat} {H : List (Nat × Nat × Rec)} {ob : Rec} {res : Int32} {NF : Nat} (k2 : Int32 → Int32 → Option (Int32)) (hk2 : ∀ (i1 : Int32) (i2 : Int32), k2 i1 i2 = some res → Runs C B3 0 0 2 [vr a, vi i1, vi i2, vn, vn, vn, vn, vn, vn, vn] [] (top, (a, 9, ob) :: H) (Ans (some (.int res)) (top, (a, 9, ob) :: H))) (n : Nat) (i1 : Int32) (i2 : Int32) (i3 : Int32) (i4 : Int32) (hf : L_holds_l12 NF ob k2 n i1 i2 i3 i4 = some res) : Runs C B3 0 0 12 [vr a, vi i1, vi i2, vi i3, vi i4, vn, vn, vn, vn, vn] [] (top, (a, 9, ob) :: H) (Ans (some (.int res)) (top, (a, 9, ob) :: H)) := by
  induction n generalizing i1 i2 i3 i4 with
  | zero => cases (show (none : Option (Int32)) = some res from hf)
  | succ n ih => exact L_holds_w12_p k2 hk2 (L_holds_l12 NF ob k2 n) (fun i1 i2 i3 i4 h => ih _ _ _ _ h) i1 i2 i3 i4 hf
def L_holds_b258 (NF : Nat) (ob : Rec) (k180 : Int32 → Int32 → Option (Int32)) (k194 : Int32 → Int32 → Int32 → Int32 → Option (Int32)) (k212 : Int32 → Int32 → Int32 → Int32 → Int32 → Int32 → Int32 → Int32 → Option (Int32)) (i1 : Int32) (i2 : Int32) (i3 : Int32) (i4 : Int32) (i5 : Int32) (i6 : Int32) (i7 : Int32) (i8 : Int32) : Option (Int32) :=
  (X_state ob i8 i2 i4).bind fun r38 =>
  if r38 = (2 : Int32) then
    k212 i1 i2 i3 i4 i5 i6 (1 : Int32) (i8 + (1 : Int32))
  else
    k212 i1 i2 i3 i4 i5 i6 i7 (i8 + (1 : Int32))
set_option maxRecDepth 65536 in
set_option maxHeartbeats 4000000 in
theorem L_holds_b258_p {C : Ctx} {top : Nat} {a : Nat} {H : List (Nat × Nat × Rec)} {ob : Rec} {res : Int32} {NF : Nat} (k180 : Int32 → Int32 → Option (Int32)) (hk180 : ∀ (i1 : Int32) (i2 : Int32), k180 i1 i2 = some res → Runs C B3 0 0 180 [vr a, vi i1, vi i2, vn, vn, vn, vn, vn, vn, vn] [] (top, (a, 9, ob) :: H) (Ans (some (.int res)) (top, (a, 9, ob) :: H))) (k194 : Int32 → Int32 → Int32 → Int32 → Option (Int32)) (hk194 : ∀ (i1 : Int32) (i2 : Int32) (i3 : Int32) (i4 : Int32), k194 i1 i2 i3 i4 = some res → Runs C B3 0 0 194 [vr a, vi i1, vi i2, vi i3, vi i4, vn, vn, vn, vn, vn] [] (top, (a, 9, ob) :: H) (Ans (some (.int res)) (top, (a, 9, ob) :: H))) (k212 : Int32 → Int32 → Int32 → Int32 → Int32 → Int32 → Int32 → Int32 → Option (Int32)) (hk212 : ∀ (i1 : Int32) (i2 : Int32) (i3 : Int32) (i4 : Int32) (i5 : Int32) (i6 : Int32) (i7 : Int32) (i8 : Int32), k212 i1 i2 i3 i4 i5 i6 i7 i8 = some res → Runs C B3 0 0 212 [vr a, vi i1, vi i2, vi i3, vi i4, vi i5, vi i6, vi i7, vi i8, vn] [] (top, (a, 9, ob) :: H) (Ans (some (.int res)) (top, (a, 9, ob) :: H))) (i1 : Int32) (i2 : Int32) (i3 : Int32) (i4 : Int32) (i5 : Int32) (i6 : Int32) (i7 : Int32) (i8 : Int32) (hf : L_holds_b258 NF ob k180 k194 k212 i1 i2 i3 i4 i5 i6 i7 i8 = some res) : Runs C B3 0 0 258 [vr a, vi i1, vi i2, vi i3, vi i4, vi i5, vi i6, vi i7, vi i8, vn] [] (top, (a, 9, ob) :: H) (Ans (some (.int res)) (top, (a, 9, ob) :: H)) := by
  delta L_holds_b258 at hf
  refine Runs.aloadN d3_258 rfl <| Runs.iload d3_259 rfl <| Runs.iloadN d3_261 rfl <| Runs.iload d3_262 rfl <| ?_
  refine bind_el hf fun r38 hg39 hf => ?_
  refine Runs.callV (N := B17) (W := 0) (as := [.int i8, .int i2, .int i4]) (S' := []) d3_264 w97 w98 w99 w100 cw17 ar17 rk3_17_0 (by decide) rfl rfl (X_state_pay hg39) <| ans1 <| Runs.iconst d3_267 ci_2 <| ?_
  refine ite_el hf (fun hc40 hf => ?_) (fun hc40 hf => ?_)
  · refine Runs.icN d3_268 (teq hc40).2 <| ?_
    exact Runs.iconst d3_271 ci_1 <| Runs.istore (P' := [vr a, vi i1, vi i2, vi i3, vi i4, vi i5, vi i6, vi (1 : Int32), vi i8, vn]) d3_272 (by decide) rfl <| Runs.iinc (P' := [vr a, vi i1, vi i2, vi i3, vi i4, vi i5, vi i6, vi (1 : Int32), vi (i8 + (1 : Int32)), vn]) d3_274 ci_1 rfl (by decide) rfl <| Runs.goto (pc' := 212) d3_277 (by decide) <| hk212 i1 i2 i3 i4 i5 i6 (1 : Int32) (i8 + (1 : Int32)) hf
  · refine Runs.icY (pc' := 274) d3_268 (feq hc40).2 (by decide) <| ?_
    exact Runs.iinc (P' := [vr a, vi i1, vi i2, vi i3, vi i4, vi i5, vi i6, vi i7, vi (i8 + (1 : Int32)), vn]) d3_274 ci_1 rfl (by decide) rfl <| Runs.goto (pc' := 212) d3_277 (by decide) <| hk212 i1 i2 i3 i4 i5 i6 i7 (i8 + (1 : Int32)) hf
def L_holds_b234 (NF : Nat) (ob : Rec) (k180 : Int32 → Int32 → Option (Int32)) (k194 : Int32 → Int32 → Int32 → Int32 → Option (Int32)) (k212 : Int32 → Int32 → Int32 → Int32 → Int32 → Int32 → Int32 → Int32 → Option (Int32)) (i1 : Int32) (i2 : Int32) (i3 : Int32) (i4 : Int32) (i5 : Int32) (i6 : Int32) (i7 : Int32) (i8 : Int32) : Option (Int32) :=
  (X_isCrashed ob i8).bind fun r32 =>
  if r32 = (0 : Int32) then
    (L_has ob i8 i2 i4).bind fun r35 =>
    if r35 = (0 : Int32) then
      L_holds_b258 NF ob k180 k194 k212 i1 i2 i3 i4 i5 i6 i7 i8
    else
      L_holds_b258 NF ob k180 k194 k212 i1 i2 i3 i4 i5 (1 : Int32) i7 i8
  else
    k212 i1 i2 i3 i4 i5 i6 i7 (i8 + (1 : Int32))
set_option maxRecDepth 65536 in
set_option maxHeartbeats 4000000 in
theorem L_holds_b234_p {C : Ctx} {top : Nat} {a : Nat} {H : List (Nat × Nat × Rec)} {ob : Rec} {res : Int32} {NF : Nat} (k180 : Int32 → Int32 → Option (Int32)) (hk180 : ∀ (i1 : Int32) (i2 : Int32), k180 i1 i2 = some res → Runs C B3 0 0 180 [vr a, vi i1, vi i2, vn, vn, vn, vn, vn, vn, vn] [] (top, (a, 9, ob) :: H) (Ans (some (.int res)) (top, (a, 9, ob) :: H))) (k194 : Int32 → Int32 → Int32 → Int32 → Option (Int32)) (hk194 : ∀ (i1 : Int32) (i2 : Int32) (i3 : Int32) (i4 : Int32), k194 i1 i2 i3 i4 = some res → Runs C B3 0 0 194 [vr a, vi i1, vi i2, vi i3, vi i4, vn, vn, vn, vn, vn] [] (top, (a, 9, ob) :: H) (Ans (some (.int res)) (top, (a, 9, ob) :: H))) (k212 : Int32 → Int32 → Int32 → Int32 → Int32 → Int32 → Int32 → Int32 → Option (Int32)) (hk212 : ∀ (i1 : Int32) (i2 : Int32) (i3 : Int32) (i4 : Int32) (i5 : Int32) (i6 : Int32) (i7 : Int32) (i8 : Int32), k212 i1 i2 i3 i4 i5 i6 i7 i8 = some res → Runs C B3 0 0 212 [vr a, vi i1, vi i2, vi i3, vi i4, vi i5, vi i6, vi i7, vi i8, vn] [] (top, (a, 9, ob) :: H) (Ans (some (.int res)) (top, (a, 9, ob) :: H))) (i1 : Int32) (i2 : Int32) (i3 : Int32) (i4 : Int32) (i5 : Int32) (i6 : Int32) (i7 : Int32) (i8 : Int32) (hf : L_holds_b234 NF ob k180 k194 k212 i1 i2 i3 i4 i5 i6 i7 i8 = some res) : Runs C B3 0 0 234 [vr a, vi i1, vi i2, vi i3, vi i4, vi i5, vi i6, vi i7, vi i8, vn] [] (top, (a, 9, ob) :: H) (Ans (some (.int res)) (top, (a, 9, ob) :: H)) := by
  delta L_holds_b234 at hf
  refine Runs.aloadN d3_234 rfl <| Runs.iload d3_235 rfl <| ?_
  refine bind_el hf fun r32 hg33 hf => ?_
  refine Runs.callV (N := B18) (W := 0) (as := [.int i8]) (S' := []) d3_237 w102 w103 w104 w105 cw18 ar18 rk3_18_0 (by decide) rfl rfl (X_isCrashed_pay hg33) <| ans1 <| ?_
  refine ite_el hf (fun hc34 hf => ?_) (fun hc34 hf => ?_)
  · refine Runs.ifN d3_240 (teq hc34).2 <| ?_
    refine Runs.aloadN d3_243 rfl <| Runs.iload d3_244 rfl <| Runs.iloadN d3_246 rfl <| Runs.iload d3_247 rfl <| ?_
    refine bind_el hf fun r35 hg36 hf => ?_
    refine Runs.callS (N := B19) (W := 0) (as := [.ref a, .int i8, .int i2, .int i4]) (S' := []) d3_249 w107 w108 cw19 ar19 rk3_19_0 (by decide) rfl rfl (L_has_pay hg36) <| ans1 <| ?_
    refine ite_el hf (fun hc37 hf => ?_) (fun hc37 hf => ?_)
    · exact Runs.ifY (pc' := 258) d3_252 (teq hc37).1 (by decide) <| L_holds_b258_p k180 hk180 k194 hk194 k212 hk212 i1 i2 i3 i4 i5 i6 i7 i8 hf
    · refine Runs.ifN d3_252 (feq hc37).1 <| ?_
      exact Runs.iconst d3_255 ci_1 <| Runs.istore (P' := [vr a, vi i1, vi i2, vi i3, vi i4, vi i5, vi (1 : Int32), vi i7, vi i8, vn]) d3_256 (by decide) rfl <| L_holds_b258_p k180 hk180 k194 hk194 k212 hk212 i1 i2 i3 i4 i5 (1 : Int32) i7 i8 hf
  · refine Runs.ifY (pc' := 274) d3_240 (feq hc34).2 (by decide) <| ?_
    exact Runs.iinc (P' := [vr a, vi i1, vi i2, vi i3, vi i4, vi i5, vi i6, vi i7, vi (i8 + (1 : Int32)), vn]) d3_274 ci_1 rfl (by decide) rfl <| Runs.goto (pc' := 212) d3_277 (by decide) <| hk212 i1 i2 i3 i4 i5 i6 i7 (i8 + (1 : Int32)) hf
def L_holds_b324 (NF : Nat) (ob : Rec) (k180 : Int32 → Int32 → Option (Int32)) (k194 : Int32 → Int32 → Int32 → Int32 → Option (Int32)) (k283 : Int32 → Int32 → Int32 → Int32 → Int32 → Int32 → Int32 → Int32 → Option (Int32)) (i1 : Int32) (i2 : Int32) (i3 : Int32) (i4 : Int32) (i5 : Int32) (i6 : Int32) (i7 : Int32) (i8 : Int32) (i9 : Int32) : Option (Int32) :=
  if i6 = (0 : Int32) then
    k283 i1 i2 i3 i4 i5 i6 i7 (i8 + (1 : Int32))
  else
    if i9 = (0 : Int32) then
      if i7 = (0 : Int32) then
        some (0 : Int32)
      else
        k283 i1 i2 i3 i4 i5 i6 i7 (i8 + (1 : Int32))
    else
      k283 i1 i2 i3 i4 i5 i6 i7 (i8 + (1 : Int32))
set_option maxRecDepth 65536 in
set_option maxHeartbeats 4000000 in
theorem L_holds_b324_p {C : Ctx} {top : Nat} {a : Nat} {H : List (Nat × Nat × Rec)} {ob : Rec} {res : Int32} {NF : Nat} (k180 : Int32 → Int32 → Option (Int32)) (hk180 : ∀ (i1 : Int32) (i2 : Int32), k180 i1 i2 = some res → Runs C B3 0 0 180 [vr a, vi i1, vi i2, vn, vn, vn, vn, vn, vn, vn] [] (top, (a, 9, ob) :: H) (Ans (some (.int res)) (top, (a, 9, ob) :: H))) (k194 : Int32 → Int32 → Int32 → Int32 → Option (Int32)) (hk194 : ∀ (i1 : Int32) (i2 : Int32) (i3 : Int32) (i4 : Int32), k194 i1 i2 i3 i4 = some res → Runs C B3 0 0 194 [vr a, vi i1, vi i2, vi i3, vi i4, vn, vn, vn, vn, vn] [] (top, (a, 9, ob) :: H) (Ans (some (.int res)) (top, (a, 9, ob) :: H))) (k283 : Int32 → Int32 → Int32 → Int32 → Int32 → Int32 → Int32 → Int32 → Option (Int32)) (hk283 : ∀ (i1 : Int32) (i2 : Int32) (i3 : Int32) (i4 : Int32) (i5 : Int32) (i6 : Int32) (i7 : Int32) (i8 : Int32), k283 i1 i2 i3 i4 i5 i6 i7 i8 = some res → Runs C B3 0 0 283 [vr a, vi i1, vi i2, vi i3, vi i4, vi i5, vi i6, vi i7, vi i8, vn] [] (top, (a, 9, ob) :: H) (Ans (some (.int res)) (top, (a, 9, ob) :: H))) (i1 : Int32) (i2 : Int32) (i3 : Int32) (i4 : Int32) (i5 : Int32) (i6 : Int32) (i7 : Int32) (i8 : Int32) (i9 : Int32) (hf : L_holds_b324 NF ob k180 k194 k283 i1 i2 i3 i4 i5 i6 i7 i8 i9 = some res) : Runs C B3 0 0 324 [vr a, vi i1, vi i2, vi i3, vi i4, vi i5, vi i6, vi i7, vi i8, vi i9] [] (top, (a, 9, ob) :: H) (Ans (some (.int res)) (top, (a, 9, ob) :: H)) := by
  delta L_holds_b324 at hf
  refine Runs.iload d3_324 rfl <| ?_
  refine ite_el hf (fun hc49 hf => ?_) (fun hc49 hf => ?_)
  · refine Runs.ifY (pc' := 341) d3_326 (teq hc49).1 (by decide) <| ?_
    exact Runs.iinc (P' := [vr a, vi i1, vi i2, vi i3, vi i4, vi i5, vi i6, vi i7, vi (i8 + (1 : Int32)), vi i9]) d3_341 ci_1 rfl (by decide) rfl <| Runs.goto (pc' := 283) d3_344 (by decide) <| Runs.forget [true, true, true, true, true, true, true, true, true, false] rfl <| hk283 i1 i2 i3 i4 i5 i6 i7 (i8 + (1 : Int32)) hf
  · refine Runs.ifN d3_326 (feq hc49).1 <| ?_
    refine Runs.iload d3_329 rfl <| ?_
    refine ite_el hf (fun hc50 hf => ?_) (fun hc50 hf => ?_)
    · refine Runs.ifN d3_331 (teq hc50).2 <| ?_
      refine Runs.iload d3_334 rfl <| ?_
      refine ite_el hf (fun hc51 hf => ?_) (fun hc51 hf => ?_)
      · refine Runs.ifN d3_336 (teq hc51).2 <| ?_
        obtain rfl := Option.some.inj hf
        exact Runs.iconst d3_339 ci_0 <| Runs.retZ (y := (0 : Int32)) d3_340 rfl ⟨by decide, by decide⟩ rfl ⟨rfl, rfl⟩
      · refine Runs.ifY (pc' := 341) d3_336 (feq hc51).2 (by decide) <| ?_
        exact Runs.iinc (P' := [vr a, vi i1, vi i2, vi i3, vi i4, vi i5, vi i6, vi i7, vi (i8 + (1 : Int32)), vi i9]) d3_341 ci_1 rfl (by decide) rfl <| Runs.goto (pc' := 283) d3_344 (by decide) <| Runs.forget [true, true, true, true, true, true, true, true, true, false] rfl <| hk283 i1 i2 i3 i4 i5 i6 i7 (i8 + (1 : Int32)) hf
    · refine Runs.ifY (pc' := 341) d3_331 (feq hc50).2 (by decide) <| ?_
      exact Runs.iinc (P' := [vr a, vi i1, vi i2, vi i3, vi i4, vi i5, vi i6, vi i7, vi (i8 + (1 : Int32)), vi i9]) d3_341 ci_1 rfl (by decide) rfl <| Runs.goto (pc' := 283) d3_344 (by decide) <| Runs.forget [true, true, true, true, true, true, true, true, true, false] rfl <| hk283 i1 i2 i3 i4 i5 i6 i7 (i8 + (1 : Int32)) hf
def L_holds_w283 (NF : Nat) (ob : Rec) (k180 : Int32 → Int32 → Option (Int32)) (k194 : Int32 → Int32 → Int32 → Int32 → Option (Int32)) (k283 : Int32 → Int32 → Int32 → Int32 → Int32 → Int32 → Int32 → Int32 → Option (Int32)) (i1 : Int32) (i2 : Int32) (i3 : Int32) (i4 : Int32) (i5 : Int32) (i6 : Int32) (i7 : Int32) (i8 : Int32) : Option (Int32) :=
  if i8 < i1 then
    (X_isCrashed ob i8).bind fun r42 =>
    if r42 = (0 : Int32) then
      (L_has ob i8 i2 i4).bind fun r45 =>
      if i5 = (0 : Int32) then
        L_holds_b324 NF ob k180 k194 k283 i1 i2 i3 i4 i5 i6 i7 i8 r45
      else
        if r45 = (0 : Int32) then
          some (0 : Int32)
        else
          L_holds_b324 NF ob k180 k194 k283 i1 i2 i3 i4 i5 i6 i7 i8 r45
    else
      k283 i1 i2 i3 i4 i5 i6 i7 (i8 + (1 : Int32))
  else
    k194 i1 i2 i3 (i4 + (1 : Int32))
def L_holds_l283 (NF : Nat) (ob : Rec) (k180 : Int32 → Int32 → Option (Int32)) (k194 : Int32 → Int32 → Int32 → Int32 → Option (Int32)) : Nat → Int32 → Int32 → Int32 → Int32 → Int32 → Int32 → Int32 → Int32 → Option (Int32)
  | 0, _, _, _, _, _, _, _, _ => none
  | n + 1, i1, i2, i3, i4, i5, i6, i7, i8 => L_holds_w283 NF ob k180 k194 (L_holds_l283 NF ob k180 k194 n) i1 i2 i3 i4 i5 i6 i7 i8
set_option maxRecDepth 65536 in
set_option maxHeartbeats 4000000 in
theorem L_holds_w283_p {C : Ctx} {top : Nat} {a : Nat} {H : List (Nat × Nat × Rec)} {ob : Rec} {res : Int32} {NF : Nat} (k180 : Int32 → Int32 → Option (Int32)) (hk180 : ∀ (i1 : Int32) (i2 : Int32), k180 i1 i2 = some res → Runs C B3 0 0 180 [vr a, vi i1, vi i2, vn, vn, vn, vn, vn, vn, vn] [] (top, (a, 9, ob) :: H) (Ans (some (.int res)) (top, (a, 9, ob) :: H))) (k194 : Int32 → Int32 → Int32 → Int32 → Option (Int32)) (hk194 : ∀ (i1 : Int32) (i2 : Int32) (i3 : Int32) (i4 : Int32), k194 i1 i2 i3 i4 = some res → Runs C B3 0 0 194 [vr a, vi i1, vi i2, vi i3, vi i4, vn, vn, vn, vn, vn] [] (top, (a, 9, ob) :: H) (Ans (some (.int res)) (top, (a, 9, ob) :: H))) (k283 : Int32 → Int32 → Int32 → Int32 → Int32 → Int32 → Int32 → Int32 → Option (Int32)) (hk283 : ∀ (i1 : Int32) (i2 : Int32) (i3 : Int32) (i4 : Int32) (i5 : Int32) (i6 : Int32) (i7 : Int32) (i8 : Int32), k283 i1 i2 i3 i4 i5 i6 i7 i8 = some res → Runs C B3 0 0 283 [vr a, vi i1, vi i2, vi i3, vi i4, vi i5, vi i6, vi i7, vi i8, vn] [] (top, (a, 9, ob) :: H) (Ans (some (.int res)) (top, (a, 9, ob) :: H))) (i1 : Int32) (i2 : Int32) (i3 : Int32) (i4 : Int32) (i5 : Int32) (i6 : Int32) (i7 : Int32) (i8 : Int32) (hf : L_holds_w283 NF ob k180 k194 k283 i1 i2 i3 i4 i5 i6 i7 i8 = some res) : Runs C B3 0 0 283 [vr a, vi i1, vi i2, vi i3, vi i4, vi i5, vi i6, vi i7, vi i8, vn] [] (top, (a, 9, ob) :: H) (Ans (some (.int res)) (top, (a, 9, ob) :: H)) := by
  delta L_holds_w283 at hf
  refine Runs.iload d3_283 rfl <| Runs.iloadN d3_285 rfl <| ?_
  refine ite_el hf (fun hc41 hf => ?_) (fun hc41 hf => ?_)
  · refine Runs.icN d3_286 (tlt hc41).2.1 <| ?_
    refine Runs.aloadN d3_289 rfl <| Runs.iload d3_290 rfl <| ?_
    refine bind_el hf fun r42 hg43 hf => ?_
    refine Runs.callV (N := B18) (W := 0) (as := [.int i8]) (S' := []) d3_292 w102 w103 w104 w105 cw18 ar18 rk3_18_0 (by decide) rfl rfl (X_isCrashed_pay hg43) <| ans1 <| ?_
    refine ite_el hf (fun hc44 hf => ?_) (fun hc44 hf => ?_)
    · refine Runs.ifY (pc' := 301) d3_295 (teq hc44).1 (by decide) <| ?_
      refine Runs.aloadN d3_301 rfl <| Runs.iload d3_302 rfl <| Runs.iloadN d3_304 rfl <| Runs.iload d3_305 rfl <| ?_
      refine bind_el hf fun r45 hg46 hf => ?_
      refine Runs.callS (N := B19) (W := 0) (as := [.ref a, .int i8, .int i2, .int i4]) (S' := []) d3_307 w107 w108 cw19 ar19 rk3_19_0 (by decide) rfl rfl (L_has_pay hg46) <| ans1 <| Runs.istore (P' := [vr a, vi i1, vi i2, vi i3, vi i4, vi i5, vi i6, vi i7, vi i8, vi r45]) d3_310 (by decide) rfl <| Runs.iload d3_312 rfl <| ?_
      refine ite_el hf (fun hc47 hf => ?_) (fun hc47 hf => ?_)
      · exact Runs.ifY (pc' := 324) d3_314 (teq hc47).1 (by decide) <| L_holds_b324_p k180 hk180 k194 hk194 k283 hk283 i1 i2 i3 i4 i5 i6 i7 i8 r45 hf
      · refine Runs.ifN d3_314 (feq hc47).1 <| ?_
        refine Runs.iload d3_317 rfl <| ?_
        refine ite_el hf (fun hc48 hf => ?_) (fun hc48 hf => ?_)
        · refine Runs.ifN d3_319 (teq hc48).2 <| ?_
          obtain rfl := Option.some.inj hf
          exact Runs.iconst d3_322 ci_0 <| Runs.retZ (y := (0 : Int32)) d3_323 rfl ⟨by decide, by decide⟩ rfl ⟨rfl, rfl⟩
        · exact Runs.ifY (pc' := 324) d3_319 (feq hc48).2 (by decide) <| L_holds_b324_p k180 hk180 k194 hk194 k283 hk283 i1 i2 i3 i4 i5 i6 i7 i8 r45 hf
    · refine Runs.ifN d3_295 (feq hc44).1 <| ?_
      exact Runs.goto (pc' := 341) d3_298 (by decide) <| Runs.iinc (P' := [vr a, vi i1, vi i2, vi i3, vi i4, vi i5, vi i6, vi i7, vi (i8 + (1 : Int32)), vn]) d3_341 ci_1 rfl (by decide) rfl <| Runs.goto (pc' := 283) d3_344 (by decide) <| hk283 i1 i2 i3 i4 i5 i6 i7 (i8 + (1 : Int32)) hf
  · refine Runs.icY (pc' := 347) d3_286 (flt hc41).2.1 (by decide) <| ?_
    exact Runs.iinc (P' := [vr a, vi i1, vi i2, vi i3, vi (i4 + (1 : Int32)), vi i5, vi i6, vi i7, vi i8, vn]) d3_347 ci_1 rfl (by decide) rfl <| Runs.goto (pc' := 194) d3_350 (by decide) <| Runs.forget [true, true, true, true, true, false, false, false, false, false] rfl <| hk194 i1 i2 i3 (i4 + (1 : Int32)) hf
theorem L_holds_l283_p {C : Ctx} {top : Nat} {a : Nat} {H : List (Nat × Nat × Rec)} {ob : Rec} {res : Int32} {NF : Nat} (k180 : Int32 → Int32 → Option (Int32)) (hk180 : ∀ (i1 : Int32) (i2 : Int32), k180 i1 i2 = some res → Runs C B3 0 0 180 [vr a, vi i1, vi i2, vn, vn, vn, vn, vn, vn, vn] [] (top, (a, 9, ob) :: H) (Ans (some (.int res)) (top, (a, 9, ob) :: H))) (k194 : Int32 → Int32 → Int32 → Int32 → Option (Int32)) (hk194 : ∀ (i1 : Int32) (i2 : Int32) (i3 : Int32) (i4 : Int32), k194 i1 i2 i3 i4 = some res → Runs C B3 0 0 194 [vr a, vi i1, vi i2, vi i3, vi i4, vn, vn, vn, vn, vn] [] (top, (a, 9, ob) :: H) (Ans (some (.int res)) (top, (a, 9, ob) :: H))) (n : Nat) (i1 : Int32) (i2 : Int32) (i3 : Int32) (i4 : Int32) (i5 : Int32) (i6 : Int32) (i7 : Int32) (i8 : Int32) (hf : L_holds_l283 NF ob k180 k194 n i1 i2 i3 i4 i5 i6 i7 i8 = some res) : Runs C B3 0 0 283 [vr a, vi i1, vi i2, vi i3, vi i4, vi i5, vi i6, vi i7, vi i8, vn] [] (top, (a, 9, ob) :: H) (Ans (some (.int res)) (top, (a, 9, ob) :: H)) := by
  induction n generalizing i1 i2 i3 i4 i5 i6 i7 i8 with
  | zero => cases (show (none : Option (Int32)) = some res from hf)
  | succ n ih => exact L_holds_w283_p k180 hk180 k194 hk194 (L_holds_l283 NF ob k180 k194 n) (fun i1 i2 i3 i4 i5 i6 i7 i8 h => ih _ _ _ _ _ _ _ _ h) i1 i2 i3 i4 i5 i6 i7 i8 hf
def L_holds_w212 (NF : Nat) (ob : Rec) (k180 : Int32 → Int32 → Option (Int32)) (k194 : Int32 → Int32 → Int32 → Int32 → Option (Int32)) (k212 : Int32 → Int32 → Int32 → Int32 → Int32 → Int32 → Int32 → Int32 → Option (Int32)) (i1 : Int32) (i2 : Int32) (i3 : Int32) (i4 : Int32) (i5 : Int32) (i6 : Int32) (i7 : Int32) (i8 : Int32) : Option (Int32) :=
  if i8 < i1 then
    (X_state ob i8 i2 i4).bind fun r29 =>
    if r29 = (3 : Int32) then
      L_holds_b234 NF ob k180 k194 k212 i1 i2 i3 i4 (1 : Int32) i6 i7 i8
    else
      L_holds_b234 NF ob k180 k194 k212 i1 i2 i3 i4 i5 i6 i7 i8
  else
    L_holds_l283 NF ob k180 k194 NF i1 i2 i3 i4 i5 i6 i7 (0 : Int32)
def L_holds_l212 (NF : Nat) (ob : Rec) (k180 : Int32 → Int32 → Option (Int32)) (k194 : Int32 → Int32 → Int32 → Int32 → Option (Int32)) : Nat → Int32 → Int32 → Int32 → Int32 → Int32 → Int32 → Int32 → Int32 → Option (Int32)
  | 0, _, _, _, _, _, _, _, _ => none
  | n + 1, i1, i2, i3, i4, i5, i6, i7, i8 => L_holds_w212 NF ob k180 k194 (L_holds_l212 NF ob k180 k194 n) i1 i2 i3 i4 i5 i6 i7 i8
set_option maxRecDepth 65536 in
set_option maxHeartbeats 4000000 in
theorem L_holds_w212_p {C : Ctx} {top : Nat} {a : Nat} {H : List (Nat × Nat × Rec)} {ob : Rec} {res : Int32} {NF : Nat} (k180 : Int32 → Int32 → Option (Int32)) (hk180 : ∀ (i1 : Int32) (i2 : Int32), k180 i1 i2 = some res → Runs C B3 0 0 180 [vr a, vi i1, vi i2, vn, vn, vn, vn, vn, vn, vn] [] (top, (a, 9, ob) :: H) (Ans (some (.int res)) (top, (a, 9, ob) :: H))) (k194 : Int32 → Int32 → Int32 → Int32 → Option (Int32)) (hk194 : ∀ (i1 : Int32) (i2 : Int32) (i3 : Int32) (i4 : Int32), k194 i1 i2 i3 i4 = some res → Runs C B3 0 0 194 [vr a, vi i1, vi i2, vi i3, vi i4, vn, vn, vn, vn, vn] [] (top, (a, 9, ob) :: H) (Ans (some (.int res)) (top, (a, 9, ob) :: H))) (k212 : Int32 → Int32 → Int32 → Int32 → Int32 → Int32 → Int32 → Int32 → Option (Int32)) (hk212 : ∀ (i1 : Int32) (i2 : Int32) (i3 : Int32) (i4 : Int32) (i5 : Int32) (i6 : Int32) (i7 : Int32) (i8 : Int32), k212 i1 i2 i3 i4 i5 i6 i7 i8 = some res → Runs C B3 0 0 212 [vr a, vi i1, vi i2, vi i3, vi i4, vi i5, vi i6, vi i7, vi i8, vn] [] (top, (a, 9, ob) :: H) (Ans (some (.int res)) (top, (a, 9, ob) :: H))) (i1 : Int32) (i2 : Int32) (i3 : Int32) (i4 : Int32) (i5 : Int32) (i6 : Int32) (i7 : Int32) (i8 : Int32) (hf : L_holds_w212 NF ob k180 k194 k212 i1 i2 i3 i4 i5 i6 i7 i8 = some res) : Runs C B3 0 0 212 [vr a, vi i1, vi i2, vi i3, vi i4, vi i5, vi i6, vi i7, vi i8, vn] [] (top, (a, 9, ob) :: H) (Ans (some (.int res)) (top, (a, 9, ob) :: H)) := by
  delta L_holds_w212 at hf
  refine Runs.iload d3_212 rfl <| Runs.iloadN d3_214 rfl <| ?_
  refine ite_el hf (fun hc28 hf => ?_) (fun hc28 hf => ?_)
  · refine Runs.icN d3_215 (tlt hc28).2.1 <| ?_
    refine Runs.aloadN d3_218 rfl <| Runs.iload d3_219 rfl <| Runs.iloadN d3_221 rfl <| Runs.iload d3_222 rfl <| ?_
    refine bind_el hf fun r29 hg30 hf => ?_
    refine Runs.callV (N := B17) (W := 0) (as := [.int i8, .int i2, .int i4]) (S' := []) d3_224 w97 w98 w99 w100 cw17 ar17 rk3_17_0 (by decide) rfl rfl (X_state_pay hg30) <| ans1 <| Runs.iconst d3_227 ci_3 <| ?_
    refine ite_el hf (fun hc31 hf => ?_) (fun hc31 hf => ?_)
    · refine Runs.icN d3_228 (teq hc31).2 <| ?_
      exact Runs.iconst d3_231 ci_1 <| Runs.istore (P' := [vr a, vi i1, vi i2, vi i3, vi i4, vi (1 : Int32), vi i6, vi i7, vi i8, vn]) d3_232 (by decide) rfl <| L_holds_b234_p k180 hk180 k194 hk194 k212 hk212 i1 i2 i3 i4 (1 : Int32) i6 i7 i8 hf
    · exact Runs.icY (pc' := 234) d3_228 (feq hc31).2 (by decide) <| L_holds_b234_p k180 hk180 k194 hk194 k212 hk212 i1 i2 i3 i4 i5 i6 i7 i8 hf
  · refine Runs.icY (pc' := 280) d3_215 (flt hc28).2.1 (by decide) <| ?_
    exact Runs.iconst d3_280 ci_0 <| Runs.istore (P' := [vr a, vi i1, vi i2, vi i3, vi i4, vi i5, vi i6, vi i7, vi (0 : Int32), vn]) d3_281 (by decide) rfl <| L_holds_l283_p k180 hk180 k194 hk194 NF i1 i2 i3 i4 i5 i6 i7 (0 : Int32) hf
theorem L_holds_l212_p {C : Ctx} {top : Nat} {a : Nat} {H : List (Nat × Nat × Rec)} {ob : Rec} {res : Int32} {NF : Nat} (k180 : Int32 → Int32 → Option (Int32)) (hk180 : ∀ (i1 : Int32) (i2 : Int32), k180 i1 i2 = some res → Runs C B3 0 0 180 [vr a, vi i1, vi i2, vn, vn, vn, vn, vn, vn, vn] [] (top, (a, 9, ob) :: H) (Ans (some (.int res)) (top, (a, 9, ob) :: H))) (k194 : Int32 → Int32 → Int32 → Int32 → Option (Int32)) (hk194 : ∀ (i1 : Int32) (i2 : Int32) (i3 : Int32) (i4 : Int32), k194 i1 i2 i3 i4 = some res → Runs C B3 0 0 194 [vr a, vi i1, vi i2, vi i3, vi i4, vn, vn, vn, vn, vn] [] (top, (a, 9, ob) :: H) (Ans (some (.int res)) (top, (a, 9, ob) :: H))) (n : Nat) (i1 : Int32) (i2 : Int32) (i3 : Int32) (i4 : Int32) (i5 : Int32) (i6 : Int32) (i7 : Int32) (i8 : Int32) (hf : L_holds_l212 NF ob k180 k194 n i1 i2 i3 i4 i5 i6 i7 i8 = some res) : Runs C B3 0 0 212 [vr a, vi i1, vi i2, vi i3, vi i4, vi i5, vi i6, vi i7, vi i8, vn] [] (top, (a, 9, ob) :: H) (Ans (some (.int res)) (top, (a, 9, ob) :: H)) := by
  induction n generalizing i1 i2 i3 i4 i5 i6 i7 i8 with
  | zero => cases (show (none : Option (Int32)) = some res from hf)
  | succ n ih => exact L_holds_w212_p k180 hk180 k194 hk194 (L_holds_l212 NF ob k180 k194 n) (fun i1 i2 i3 i4 i5 i6 i7 i8 h => ih _ _ _ _ _ _ _ _ h) i1 i2 i3 i4 i5 i6 i7 i8 hf
def L_holds_w194 (NF : Nat) (ob : Rec) (k180 : Int32 → Int32 → Option (Int32)) (k194 : Int32 → Int32 → Int32 → Int32 → Option (Int32)) (i1 : Int32) (i2 : Int32) (i3 : Int32) (i4 : Int32) : Option (Int32) :=
  if i3 < i4 then
    k180 i1 (i2 + (1 : Int32))
  else
    L_holds_l212 NF ob k180 k194 NF i1 i2 i3 i4 (0 : Int32) (0 : Int32) (0 : Int32) (0 : Int32)
def L_holds_l194 (NF : Nat) (ob : Rec) (k180 : Int32 → Int32 → Option (Int32)) : Nat → Int32 → Int32 → Int32 → Int32 → Option (Int32)
  | 0, _, _, _, _ => none
  | n + 1, i1, i2, i3, i4 => L_holds_w194 NF ob k180 (L_holds_l194 NF ob k180 n) i1 i2 i3 i4
set_option maxRecDepth 65536 in
set_option maxHeartbeats 4000000 in
theorem L_holds_w194_p {C : Ctx} {top : Nat} {a : Nat} {H : List (Nat × Nat × Rec)} {ob : Rec} {res : Int32} {NF : Nat} (k180 : Int32 → Int32 → Option (Int32)) (hk180 : ∀ (i1 : Int32) (i2 : Int32), k180 i1 i2 = some res → Runs C B3 0 0 180 [vr a, vi i1, vi i2, vn, vn, vn, vn, vn, vn, vn] [] (top, (a, 9, ob) :: H) (Ans (some (.int res)) (top, (a, 9, ob) :: H))) (k194 : Int32 → Int32 → Int32 → Int32 → Option (Int32)) (hk194 : ∀ (i1 : Int32) (i2 : Int32) (i3 : Int32) (i4 : Int32), k194 i1 i2 i3 i4 = some res → Runs C B3 0 0 194 [vr a, vi i1, vi i2, vi i3, vi i4, vn, vn, vn, vn, vn] [] (top, (a, 9, ob) :: H) (Ans (some (.int res)) (top, (a, 9, ob) :: H))) (i1 : Int32) (i2 : Int32) (i3 : Int32) (i4 : Int32) (hf : L_holds_w194 NF ob k180 k194 i1 i2 i3 i4 = some res) : Runs C B3 0 0 194 [vr a, vi i1, vi i2, vi i3, vi i4, vn, vn, vn, vn, vn] [] (top, (a, 9, ob) :: H) (Ans (some (.int res)) (top, (a, 9, ob) :: H)) := by
  delta L_holds_w194 at hf
  refine Runs.iload d3_194 rfl <| Runs.iloadN d3_196 rfl <| ?_
  refine ite_el hf (fun hc27 hf => ?_) (fun hc27 hf => ?_)
  · refine Runs.icY (pc' := 353) d3_197 (tlt hc27).2.2.1 (by decide) <| ?_
    exact Runs.iinc (P' := [vr a, vi i1, vi (i2 + (1 : Int32)), vi i3, vi i4, vn, vn, vn, vn, vn]) d3_353 ci_1 rfl (by decide) rfl <| Runs.goto (pc' := 180) d3_356 (by decide) <| Runs.forget [true, true, true, false, false, false, false, false, false, false] rfl <| hk180 i1 (i2 + (1 : Int32)) hf
  · refine Runs.icN d3_197 (flt hc27).2.2.1 <| ?_
    exact Runs.iconst d3_200 ci_0 <| Runs.istore (P' := [vr a, vi i1, vi i2, vi i3, vi i4, vi (0 : Int32), vn, vn, vn, vn]) d3_201 (by decide) rfl <| Runs.iconst d3_203 ci_0 <| Runs.istore (P' := [vr a, vi i1, vi i2, vi i3, vi i4, vi (0 : Int32), vi (0 : Int32), vn, vn, vn]) d3_204 (by decide) rfl <| Runs.iconst d3_206 ci_0 <| Runs.istore (P' := [vr a, vi i1, vi i2, vi i3, vi i4, vi (0 : Int32), vi (0 : Int32), vi (0 : Int32), vn, vn]) d3_207 (by decide) rfl <| Runs.iconst d3_209 ci_0 <| Runs.istore (P' := [vr a, vi i1, vi i2, vi i3, vi i4, vi (0 : Int32), vi (0 : Int32), vi (0 : Int32), vi (0 : Int32), vn]) d3_210 (by decide) rfl <| L_holds_l212_p k180 hk180 k194 hk194 NF i1 i2 i3 i4 (0 : Int32) (0 : Int32) (0 : Int32) (0 : Int32) hf
theorem L_holds_l194_p {C : Ctx} {top : Nat} {a : Nat} {H : List (Nat × Nat × Rec)} {ob : Rec} {res : Int32} {NF : Nat} (k180 : Int32 → Int32 → Option (Int32)) (hk180 : ∀ (i1 : Int32) (i2 : Int32), k180 i1 i2 = some res → Runs C B3 0 0 180 [vr a, vi i1, vi i2, vn, vn, vn, vn, vn, vn, vn] [] (top, (a, 9, ob) :: H) (Ans (some (.int res)) (top, (a, 9, ob) :: H))) (n : Nat) (i1 : Int32) (i2 : Int32) (i3 : Int32) (i4 : Int32) (hf : L_holds_l194 NF ob k180 n i1 i2 i3 i4 = some res) : Runs C B3 0 0 194 [vr a, vi i1, vi i2, vi i3, vi i4, vn, vn, vn, vn, vn] [] (top, (a, 9, ob) :: H) (Ans (some (.int res)) (top, (a, 9, ob) :: H)) := by
  induction n generalizing i1 i2 i3 i4 with
  | zero => cases (show (none : Option (Int32)) = some res from hf)
  | succ n ih => exact L_holds_w194_p k180 hk180 (L_holds_l194 NF ob k180 n) (fun i1 i2 i3 i4 h => ih _ _ _ _ h) i1 i2 i3 i4 hf
def L_holds_w376 (NF : Nat) (ob : Rec) (k361 : Int32 → Int32 → Option (Int32)) (k368 : Int32 → Int32 → Int32 → Option (Int32)) (k376 : Int32 → Int32 → Int32 → Int32 → Option (Int32)) (i1 : Int32) (i2 : Int32) (i3 : Int32) (i4 : Int32) : Option (Int32) :=
  if i4 < i1 then
    (X_known ob i2 i3 i4).bind fun r55 =>
    (X_delivered ob i3 i4).bind fun r57 =>
    if r57 < r55 then
      some (0 : Int32)
    else
      k376 i1 i2 i3 (i4 + (1 : Int32))
  else
    k368 i1 i2 (i3 + (1 : Int32))
def L_holds_l376 (NF : Nat) (ob : Rec) (k361 : Int32 → Int32 → Option (Int32)) (k368 : Int32 → Int32 → Int32 → Option (Int32)) : Nat → Int32 → Int32 → Int32 → Int32 → Option (Int32)
  | 0, _, _, _, _ => none
  | n + 1, i1, i2, i3, i4 => L_holds_w376 NF ob k361 k368 (L_holds_l376 NF ob k361 k368 n) i1 i2 i3 i4
set_option maxRecDepth 65536 in
set_option maxHeartbeats 4000000 in
theorem L_holds_w376_p {C : Ctx} {top : Nat} {a : Nat} {H : List (Nat × Nat × Rec)} {ob : Rec} {res : Int32} {NF : Nat} (k361 : Int32 → Int32 → Option (Int32)) (hk361 : ∀ (i1 : Int32) (i2 : Int32), k361 i1 i2 = some res → Runs C B3 0 0 361 [vr a, vi i1, vi i2, vn, vn, vn, vn, vn, vn, vn] [] (top, (a, 9, ob) :: H) (Ans (some (.int res)) (top, (a, 9, ob) :: H))) (k368 : Int32 → Int32 → Int32 → Option (Int32)) (hk368 : ∀ (i1 : Int32) (i2 : Int32) (i3 : Int32), k368 i1 i2 i3 = some res → Runs C B3 0 0 368 [vr a, vi i1, vi i2, vi i3, vn, vn, vn, vn, vn, vn] [] (top, (a, 9, ob) :: H) (Ans (some (.int res)) (top, (a, 9, ob) :: H))) (k376 : Int32 → Int32 → Int32 → Int32 → Option (Int32)) (hk376 : ∀ (i1 : Int32) (i2 : Int32) (i3 : Int32) (i4 : Int32), k376 i1 i2 i3 i4 = some res → Runs C B3 0 0 376 [vr a, vi i1, vi i2, vi i3, vi i4, vn, vn, vn, vn, vn] [] (top, (a, 9, ob) :: H) (Ans (some (.int res)) (top, (a, 9, ob) :: H))) (i1 : Int32) (i2 : Int32) (i3 : Int32) (i4 : Int32) (hf : L_holds_w376 NF ob k361 k368 k376 i1 i2 i3 i4 = some res) : Runs C B3 0 0 376 [vr a, vi i1, vi i2, vi i3, vi i4, vn, vn, vn, vn, vn] [] (top, (a, 9, ob) :: H) (Ans (some (.int res)) (top, (a, 9, ob) :: H)) := by
  delta L_holds_w376 at hf
  refine Runs.iload d3_376 rfl <| Runs.iloadN d3_378 rfl <| ?_
  refine ite_el hf (fun hc54 hf => ?_) (fun hc54 hf => ?_)
  · refine Runs.icN d3_379 (tlt hc54).2.1 <| ?_
    refine Runs.aloadN d3_382 rfl <| Runs.iloadN d3_383 rfl <| Runs.iloadN d3_384 rfl <| Runs.iload d3_385 rfl <| ?_
    refine bind_el hf fun r55 hg56 hf => ?_
    refine Runs.callV (N := B7) (W := 0) (as := [.int i2, .int i3, .int i4]) (S' := []) d3_387 w54 w55 w56 w57 cw7 ar7 rk3_7_0 (by decide) rfl rfl (X_known_pay hg56) <| ans1 <| Runs.aloadN d3_390 rfl <| Runs.iloadN d3_391 rfl <| Runs.iload d3_392 rfl <| ?_
    refine bind_el hf fun r57 hg58 hf => ?_
    refine Runs.callV (N := B4) (W := 1) (as := [.int i3, .int i4]) (S' := [.int r55]) d3_394 w40 w41 w42 w43 cw4 ar4 rk3_4_1 (by decide) rfl rfl (X_delivered_pay hg58) <| ans1 <| ?_
    refine ite_el hf (fun hc59 hf => ?_) (fun hc59 hf => ?_)
    · refine Runs.icN d3_397 (tlt hc59).2.2.2 <| ?_
      obtain rfl := Option.some.inj hf
      exact Runs.iconst d3_400 ci_0 <| Runs.retZ (y := (0 : Int32)) d3_401 rfl ⟨by decide, by decide⟩ rfl ⟨rfl, rfl⟩
    · refine Runs.icY (pc' := 402) d3_397 (flt hc59).2.2.2 (by decide) <| ?_
      exact Runs.iinc (P' := [vr a, vi i1, vi i2, vi i3, vi (i4 + (1 : Int32)), vn, vn, vn, vn, vn]) d3_402 ci_1 rfl (by decide) rfl <| Runs.goto (pc' := 376) d3_405 (by decide) <| hk376 i1 i2 i3 (i4 + (1 : Int32)) hf
  · refine Runs.icY (pc' := 408) d3_379 (flt hc54).2.1 (by decide) <| ?_
    exact Runs.iinc (P' := [vr a, vi i1, vi i2, vi (i3 + (1 : Int32)), vi i4, vn, vn, vn, vn, vn]) d3_408 ci_1 rfl (by decide) rfl <| Runs.goto (pc' := 368) d3_411 (by decide) <| Runs.forget [true, true, true, true, false, false, false, false, false, false] rfl <| hk368 i1 i2 (i3 + (1 : Int32)) hf
theorem L_holds_l376_p {C : Ctx} {top : Nat} {a : Nat} {H : List (Nat × Nat × Rec)} {ob : Rec} {res : Int32} {NF : Nat} (k361 : Int32 → Int32 → Option (Int32)) (hk361 : ∀ (i1 : Int32) (i2 : Int32), k361 i1 i2 = some res → Runs C B3 0 0 361 [vr a, vi i1, vi i2, vn, vn, vn, vn, vn, vn, vn] [] (top, (a, 9, ob) :: H) (Ans (some (.int res)) (top, (a, 9, ob) :: H))) (k368 : Int32 → Int32 → Int32 → Option (Int32)) (hk368 : ∀ (i1 : Int32) (i2 : Int32) (i3 : Int32), k368 i1 i2 i3 = some res → Runs C B3 0 0 368 [vr a, vi i1, vi i2, vi i3, vn, vn, vn, vn, vn, vn] [] (top, (a, 9, ob) :: H) (Ans (some (.int res)) (top, (a, 9, ob) :: H))) (n : Nat) (i1 : Int32) (i2 : Int32) (i3 : Int32) (i4 : Int32) (hf : L_holds_l376 NF ob k361 k368 n i1 i2 i3 i4 = some res) : Runs C B3 0 0 376 [vr a, vi i1, vi i2, vi i3, vi i4, vn, vn, vn, vn, vn] [] (top, (a, 9, ob) :: H) (Ans (some (.int res)) (top, (a, 9, ob) :: H)) := by
  induction n generalizing i1 i2 i3 i4 with
  | zero => cases (show (none : Option (Int32)) = some res from hf)
  | succ n ih => exact L_holds_w376_p k361 hk361 k368 hk368 (L_holds_l376 NF ob k361 k368 n) (fun i1 i2 i3 i4 h => ih _ _ _ _ h) i1 i2 i3 i4 hf
def L_holds_w368 (NF : Nat) (ob : Rec) (k361 : Int32 → Int32 → Option (Int32)) (k368 : Int32 → Int32 → Int32 → Option (Int32)) (i1 : Int32) (i2 : Int32) (i3 : Int32) : Option (Int32) :=
  if i3 < i1 then
    L_holds_l376 NF ob k361 k368 NF i1 i2 i3 (0 : Int32)
  else
    k361 i1 (i2 + (1 : Int32))
def L_holds_l368 (NF : Nat) (ob : Rec) (k361 : Int32 → Int32 → Option (Int32)) : Nat → Int32 → Int32 → Int32 → Option (Int32)
  | 0, _, _, _ => none
  | n + 1, i1, i2, i3 => L_holds_w368 NF ob k361 (L_holds_l368 NF ob k361 n) i1 i2 i3
set_option maxRecDepth 65536 in
set_option maxHeartbeats 4000000 in
theorem L_holds_w368_p {C : Ctx} {top : Nat} {a : Nat} {H : List (Nat × Nat × Rec)} {ob : Rec} {res : Int32} {NF : Nat} (k361 : Int32 → Int32 → Option (Int32)) (hk361 : ∀ (i1 : Int32) (i2 : Int32), k361 i1 i2 = some res → Runs C B3 0 0 361 [vr a, vi i1, vi i2, vn, vn, vn, vn, vn, vn, vn] [] (top, (a, 9, ob) :: H) (Ans (some (.int res)) (top, (a, 9, ob) :: H))) (k368 : Int32 → Int32 → Int32 → Option (Int32)) (hk368 : ∀ (i1 : Int32) (i2 : Int32) (i3 : Int32), k368 i1 i2 i3 = some res → Runs C B3 0 0 368 [vr a, vi i1, vi i2, vi i3, vn, vn, vn, vn, vn, vn] [] (top, (a, 9, ob) :: H) (Ans (some (.int res)) (top, (a, 9, ob) :: H))) (i1 : Int32) (i2 : Int32) (i3 : Int32) (hf : L_holds_w368 NF ob k361 k368 i1 i2 i3 = some res) : Runs C B3 0 0 368 [vr a, vi i1, vi i2, vi i3, vn, vn, vn, vn, vn, vn] [] (top, (a, 9, ob) :: H) (Ans (some (.int res)) (top, (a, 9, ob) :: H)) := by
  delta L_holds_w368 at hf
  refine Runs.iloadN d3_368 rfl <| Runs.iloadN d3_369 rfl <| ?_
  refine ite_el hf (fun hc53 hf => ?_) (fun hc53 hf => ?_)
  · refine Runs.icN d3_370 (tlt hc53).2.1 <| ?_
    exact Runs.iconst d3_373 ci_0 <| Runs.istore (P' := [vr a, vi i1, vi i2, vi i3, vi (0 : Int32), vn, vn, vn, vn, vn]) d3_374 (by decide) rfl <| L_holds_l376_p k361 hk361 k368 hk368 NF i1 i2 i3 (0 : Int32) hf
  · refine Runs.icY (pc' := 414) d3_370 (flt hc53).2.1 (by decide) <| ?_
    exact Runs.iinc (P' := [vr a, vi i1, vi (i2 + (1 : Int32)), vi i3, vn, vn, vn, vn, vn, vn]) d3_414 ci_1 rfl (by decide) rfl <| Runs.goto (pc' := 361) d3_417 (by decide) <| Runs.forget [true, true, true, false, false, false, false, false, false, false] rfl <| hk361 i1 (i2 + (1 : Int32)) hf
theorem L_holds_l368_p {C : Ctx} {top : Nat} {a : Nat} {H : List (Nat × Nat × Rec)} {ob : Rec} {res : Int32} {NF : Nat} (k361 : Int32 → Int32 → Option (Int32)) (hk361 : ∀ (i1 : Int32) (i2 : Int32), k361 i1 i2 = some res → Runs C B3 0 0 361 [vr a, vi i1, vi i2, vn, vn, vn, vn, vn, vn, vn] [] (top, (a, 9, ob) :: H) (Ans (some (.int res)) (top, (a, 9, ob) :: H))) (n : Nat) (i1 : Int32) (i2 : Int32) (i3 : Int32) (hf : L_holds_l368 NF ob k361 n i1 i2 i3 = some res) : Runs C B3 0 0 368 [vr a, vi i1, vi i2, vi i3, vn, vn, vn, vn, vn, vn] [] (top, (a, 9, ob) :: H) (Ans (some (.int res)) (top, (a, 9, ob) :: H)) := by
  induction n generalizing i1 i2 i3 with
  | zero => cases (show (none : Option (Int32)) = some res from hf)
  | succ n ih => exact L_holds_w368_p k361 hk361 (L_holds_l368 NF ob k361 n) (fun i1 i2 i3 h => ih _ _ _ h) i1 i2 i3 hf
def L_holds_w361 (NF : Nat) (ob : Rec) (k361 : Int32 → Int32 → Option (Int32)) (i1 : Int32) (i2 : Int32) : Option (Int32) :=
  if i2 < i1 then
    L_holds_l368 NF ob k361 NF i1 i2 (0 : Int32)
  else
    some (1 : Int32)
def L_holds_l361 (NF : Nat) (ob : Rec) : Nat → Int32 → Int32 → Option (Int32)
  | 0, _, _ => none
  | n + 1, i1, i2 => L_holds_w361 NF ob (L_holds_l361 NF ob n) i1 i2
set_option maxRecDepth 65536 in
set_option maxHeartbeats 4000000 in
theorem L_holds_w361_p {C : Ctx} {top : Nat} {a : Nat} {H : List (Nat × Nat × Rec)} {ob : Rec} {res : Int32} {NF : Nat} (k361 : Int32 → Int32 → Option (Int32)) (hk361 : ∀ (i1 : Int32) (i2 : Int32), k361 i1 i2 = some res → Runs C B3 0 0 361 [vr a, vi i1, vi i2, vn, vn, vn, vn, vn, vn, vn] [] (top, (a, 9, ob) :: H) (Ans (some (.int res)) (top, (a, 9, ob) :: H))) (i1 : Int32) (i2 : Int32) (hf : L_holds_w361 NF ob k361 i1 i2 = some res) : Runs C B3 0 0 361 [vr a, vi i1, vi i2, vn, vn, vn, vn, vn, vn, vn] [] (top, (a, 9, ob) :: H) (Ans (some (.int res)) (top, (a, 9, ob) :: H)) := by
  delta L_holds_w361 at hf
  refine Runs.iloadN d3_361 rfl <| Runs.iloadN d3_362 rfl <| ?_
  refine ite_el hf (fun hc52 hf => ?_) (fun hc52 hf => ?_)
  · refine Runs.icN d3_363 (tlt hc52).2.1 <| ?_
    exact Runs.iconst d3_366 ci_0 <| Runs.istoreN (P' := [vr a, vi i1, vi i2, vi (0 : Int32), vn, vn, vn, vn, vn, vn]) d3_367 (by decide) rfl <| L_holds_l368_p k361 hk361 NF i1 i2 (0 : Int32) hf
  · refine Runs.icY (pc' := 420) d3_363 (flt hc52).2.1 (by decide) <| ?_
    obtain rfl := Option.some.inj hf
    exact Runs.iconst d3_420 ci_1 <| Runs.retZ (y := (1 : Int32)) d3_421 rfl ⟨by decide, by decide⟩ rfl ⟨rfl, rfl⟩
theorem L_holds_l361_p {C : Ctx} {top : Nat} {a : Nat} {H : List (Nat × Nat × Rec)} {ob : Rec} {res : Int32} {NF : Nat} (n : Nat) (i1 : Int32) (i2 : Int32) (hf : L_holds_l361 NF ob n i1 i2 = some res) : Runs C B3 0 0 361 [vr a, vi i1, vi i2, vn, vn, vn, vn, vn, vn, vn] [] (top, (a, 9, ob) :: H) (Ans (some (.int res)) (top, (a, 9, ob) :: H)) := by
  induction n generalizing i1 i2 with
  | zero => cases (show (none : Option (Int32)) = some res from hf)
  | succ n ih => exact L_holds_w361_p (L_holds_l361 NF ob n) (fun i1 i2 h => ih _ _ h) i1 i2 hf
def L_holds_w180 (NF : Nat) (ob : Rec) (k180 : Int32 → Int32 → Option (Int32)) (i1 : Int32) (i2 : Int32) : Option (Int32) :=
  if i2 < i1 then
    (X_sent ob i2).bind fun r25 =>
    L_holds_l194 NF ob k180 NF i1 i2 r25 (1 : Int32)
  else
    L_holds_l361 NF ob NF i1 (0 : Int32)
def L_holds_l180 (NF : Nat) (ob : Rec) : Nat → Int32 → Int32 → Option (Int32)
  | 0, _, _ => none
  | n + 1, i1, i2 => L_holds_w180 NF ob (L_holds_l180 NF ob n) i1 i2
set_option maxRecDepth 65536 in
set_option maxHeartbeats 4000000 in
theorem L_holds_w180_p {C : Ctx} {top : Nat} {a : Nat} {H : List (Nat × Nat × Rec)} {ob : Rec} {res : Int32} {NF : Nat} (k180 : Int32 → Int32 → Option (Int32)) (hk180 : ∀ (i1 : Int32) (i2 : Int32), k180 i1 i2 = some res → Runs C B3 0 0 180 [vr a, vi i1, vi i2, vn, vn, vn, vn, vn, vn, vn] [] (top, (a, 9, ob) :: H) (Ans (some (.int res)) (top, (a, 9, ob) :: H))) (i1 : Int32) (i2 : Int32) (hf : L_holds_w180 NF ob k180 i1 i2 = some res) : Runs C B3 0 0 180 [vr a, vi i1, vi i2, vn, vn, vn, vn, vn, vn, vn] [] (top, (a, 9, ob) :: H) (Ans (some (.int res)) (top, (a, 9, ob) :: H)) := by
  delta L_holds_w180 at hf
  refine Runs.iloadN d3_180 rfl <| Runs.iloadN d3_181 rfl <| ?_
  refine ite_el hf (fun hc24 hf => ?_) (fun hc24 hf => ?_)
  · refine Runs.icN d3_182 (tlt hc24).2.1 <| ?_
    refine Runs.aloadN d3_185 rfl <| Runs.iloadN d3_186 rfl <| ?_
    refine bind_el hf fun r25 hg26 hf => ?_
    exact Runs.callV (N := B6) (W := 0) (as := [.int i2]) (S' := []) d3_187 w49 w50 w51 w52 cw6 ar6 rk3_6_0 (by decide) rfl rfl (X_sent_pay hg26) <| ans1 <| Runs.istoreN (P' := [vr a, vi i1, vi i2, vi r25, vn, vn, vn, vn, vn, vn]) d3_190 (by decide) rfl <| Runs.iconst d3_191 ci_1 <| Runs.istore (P' := [vr a, vi i1, vi i2, vi r25, vi (1 : Int32), vn, vn, vn, vn, vn]) d3_192 (by decide) rfl <| L_holds_l194_p k180 hk180 NF i1 i2 r25 (1 : Int32) hf
  · refine Runs.icY (pc' := 359) d3_182 (flt hc24).2.1 (by decide) <| ?_
    exact Runs.iconst d3_359 ci_0 <| Runs.istoreN (P' := [vr a, vi i1, vi (0 : Int32), vn, vn, vn, vn, vn, vn, vn]) d3_360 (by decide) rfl <| L_holds_l361_p NF i1 (0 : Int32) hf
theorem L_holds_l180_p {C : Ctx} {top : Nat} {a : Nat} {H : List (Nat × Nat × Rec)} {ob : Rec} {res : Int32} {NF : Nat} (n : Nat) (i1 : Int32) (i2 : Int32) (hf : L_holds_l180 NF ob n i1 i2 = some res) : Runs C B3 0 0 180 [vr a, vi i1, vi i2, vn, vn, vn, vn, vn, vn, vn] [] (top, (a, 9, ob) :: H) (Ans (some (.int res)) (top, (a, 9, ob) :: H)) := by
  induction n generalizing i1 i2 with
  | zero => cases (show (none : Option (Int32)) = some res from hf)
  | succ n ih => exact L_holds_w180_p (L_holds_l180 NF ob n) (fun i1 i2 h => ih _ _ h) i1 i2 hf
def L_holds_w2 (NF : Nat) (ob : Rec) (k2 : Int32 → Int32 → Option (Int32)) (i1 : Int32) (i2 : Int32) : Option (Int32) :=
  if i2 < i1 then
    L_holds_l12 NF ob k2 NF i1 i2 (0 : Int32) (0 : Int32)
  else
    L_holds_l180 NF ob NF i1 (0 : Int32)
def L_holds_l2 (NF : Nat) (ob : Rec) : Nat → Int32 → Int32 → Option (Int32)
  | 0, _, _ => none
  | n + 1, i1, i2 => L_holds_w2 NF ob (L_holds_l2 NF ob n) i1 i2
set_option maxRecDepth 65536 in
set_option maxHeartbeats 4000000 in
theorem L_holds_w2_p {C : Ctx} {top : Nat} {a : Nat} {H : List (Nat × Nat × Rec)} {ob : Rec} {res : Int32} {NF : Nat} (k2 : Int32 → Int32 → Option (Int32)) (hk2 : ∀ (i1 : Int32) (i2 : Int32), k2 i1 i2 = some res → Runs C B3 0 0 2 [vr a, vi i1, vi i2, vn, vn, vn, vn, vn, vn, vn] [] (top, (a, 9, ob) :: H) (Ans (some (.int res)) (top, (a, 9, ob) :: H))) (i1 : Int32) (i2 : Int32) (hf : L_holds_w2 NF ob k2 i1 i2 = some res) : Runs C B3 0 0 2 [vr a, vi i1, vi i2, vn, vn, vn, vn, vn, vn, vn] [] (top, (a, 9, ob) :: H) (Ans (some (.int res)) (top, (a, 9, ob) :: H)) := by
  delta L_holds_w2 at hf
  refine Runs.iloadN d3_2 rfl <| Runs.iloadN d3_3 rfl <| ?_
  refine ite_el hf (fun hc1 hf => ?_) (fun hc1 hf => ?_)
  · refine Runs.icN d3_4 (tlt hc1).2.1 <| ?_
    exact Runs.iconst d3_7 ci_0 <| Runs.istoreN (P' := [vr a, vi i1, vi i2, vi (0 : Int32), vn, vn, vn, vn, vn, vn]) d3_8 (by decide) rfl <| Runs.iconst d3_9 ci_0 <| Runs.istore (P' := [vr a, vi i1, vi i2, vi (0 : Int32), vi (0 : Int32), vn, vn, vn, vn, vn]) d3_10 (by decide) rfl <| L_holds_l12_p k2 hk2 NF i1 i2 (0 : Int32) (0 : Int32) hf
  · refine Runs.icY (pc' := 178) d3_4 (flt hc1).2.1 (by decide) <| ?_
    exact Runs.iconst d3_178 ci_0 <| Runs.istoreN (P' := [vr a, vi i1, vi (0 : Int32), vn, vn, vn, vn, vn, vn, vn]) d3_179 (by decide) rfl <| L_holds_l180_p NF i1 (0 : Int32) hf
theorem L_holds_l2_p {C : Ctx} {top : Nat} {a : Nat} {H : List (Nat × Nat × Rec)} {ob : Rec} {res : Int32} {NF : Nat} (n : Nat) (i1 : Int32) (i2 : Int32) (hf : L_holds_l2 NF ob n i1 i2 = some res) : Runs C B3 0 0 2 [vr a, vi i1, vi i2, vn, vn, vn, vn, vn, vn, vn] [] (top, (a, 9, ob) :: H) (Ans (some (.int res)) (top, (a, 9, ob) :: H)) := by
  induction n generalizing i1 i2 with
  | zero => cases (show (none : Option (Int32)) = some res from hf)
  | succ n ih => exact L_holds_w2_p (L_holds_l2 NF ob n) (fun i1 i2 h => ih _ _ h) i1 i2 hf
def L_holds (NF : Nat) (ob : Rec) (i1 : Int32) : Option (Int32) :=
  L_holds_l2 NF ob NF i1 (0 : Int32)
set_option maxRecDepth 65536 in
set_option maxHeartbeats 4000000 in
theorem L_holds_p {C : Ctx} {top : Nat} {a : Nat} {H : List (Nat × Nat × Rec)} {ob : Rec} {res : Int32} {NF : Nat} (i1 : Int32) (hf : L_holds NF ob i1 = some res) : Runs C B3 0 0 0 [vr a, vi i1, vn, vn, vn, vn, vn, vn, vn, vn] [] (top, (a, 9, ob) :: H) (Ans (some (.int res)) (top, (a, 9, ob) :: H)) := by
  delta L_holds at hf
  exact Runs.iconst d3_0 ci_0 <| Runs.istoreN (P' := [vr a, vi i1, vi (0 : Int32), vn, vn, vn, vn, vn, vn, vn]) d3_1 (by decide) rfl <| L_holds_l2_p NF i1 (0 : Int32) hf
theorem L_holds_pay {C : Ctx} {top : Nat} {a : Nat} {H : List (Nat × Nat × Rec)} {ob : Rec} {res : Int32} {NF : Nat} {i1 : Int32} (hf : L_holds NF ob i1 = some res) : Pays C B3 [.ref a, .int i1] (top, (a, 9, ob) :: H) (Ans (some (.int res)) (top, (a, 9, ob) :: H)) :=
  Pays.of pnL (Nat.le_of_ble_eq_true rfl) (P := [vr a, vi i1, vn, vn, vn, vn, vn, vn, vn, vn]) 8 rfl (L_holds_p i1 hf)
def X_deliverAt_b89 (ob : Rec) (i1 : Int32) (i2 : Int32) : Option (Rec) :=
  (X_knownIndex ob i1 i1 i2).bind fun r1 =>
  chk (64 : Int32) ((i1 * (8 : Int32)) + i2) <|
  chk (512 : Int32) r1 <|
  some (sA ob 6 r1 (gA ob 2 ((i1 * (8 : Int32)) + i2)))
set_option maxRecDepth 65536 in
set_option maxHeartbeats 4000000 in
theorem X_deliverAt_b89_p {C : Ctx} {top : Nat} {a : Nat} {H : List (Nat × Nat × Rec)} {res : Rec} (ob : Rec) (i1 : Int32) (i2 : Int32) (hf : X_deliverAt_b89 ob i1 i2 = some res) : Runs C B11 0 0 89 [vr a, vi i1, vi i2, vn, vn, vn, vn] [] (top, (a, 9, ob) :: H) (Ans none (top, (a, 9, res) :: H)) := by
  delta X_deliverAt_b89 at hf
  refine Runs.aloadN d11_89 rfl <| Runs.iloadN d11_90 rfl <| Runs.iloadN d11_91 rfl <| Runs.iloadN d11_92 rfl <| ?_
  refine bind_el hf fun r1 hg2 hf => ?_
  refine Runs.callP (N := B8) (W := 0) (as := [.int i1, .int i1, .int i2]) (S' := []) d11_93 w59 w60 w61 rfl cw8 ar8 rk11_8_0 (by decide) rfl rfl (X_knownIndex_pay hg2) <| ans1 <| Runs.istore (P' := [vr a, vi i1, vi i2, vn, vn, vn, vi r1]) d11_96 (by decide) rfl <| Runs.aloadN d11_98 rfl <| Runs.getA d11_99 fA_6 w27 (by decide) <| Runs.iload d11_102 rfl <| Runs.aloadN d11_104 rfl <| Runs.getA d11_105 fA_2 w19 (by decide) <| Runs.iloadN d11_108 rfl <| Runs.bipush d11_109 cb_8 <| Runs.imul d11_111 <| Runs.iloadN d11_112 rfl <| Runs.iadd d11_113 <| ?_
  refine chk_el hf fun hi3 hf => ?_
  refine Runs.ialoadA d11_114 fA_2 (by decide) hi3 <| ?_
  refine chk_el hf fun hi4 hf => ?_
  obtain rfl := Option.some.inj hf
  exact Runs.iastoreA d11_115 fA_6 (by decide) hi4 <| Runs.retV d11_116 rfl ⟨by decide, by decide⟩ ⟨rfl, rfl⟩
def X_deliverAt (ob : Rec) (i1 : Int32) (i2 : Int32) (i3 : Int32) : Option (Rec) :=
  (X_stateIndex ob i1 i2 i3).bind fun r5 =>
  chk (512 : Int32) r5 <|
  chk (64 : Int32) ((i1 * (8 : Int32)) + i2) <|
  chk (64 : Int32) ((i1 * (8 : Int32)) + i2) <|
  chk (8 : Int32) i1 <|
  if (gA ob 8 i1) < (0 : Int32) then
    X_deliverAt_b89 (sA (sA ob 3 r5 (2 : Int32)) 2 ((i1 * (8 : Int32)) + i2) ((gA ob 2 ((i1 * (8 : Int32)) + i2)) + (1 : Int32))) i1 i2
  else
    if (gA ob 8 i1) < (64 : Int32) then
      chk (512 : Int32) ((i1 * (64 : Int32)) + (gA ob 8 i1)) <|
      chk (8 : Int32) i1 <|
      X_deliverAt_b89 (sA (sA (sA (sA ob 3 r5 (2 : Int32)) 2 ((i1 * (8 : Int32)) + i2) ((gA ob 2 ((i1 * (8 : Int32)) + i2)) + (1 : Int32))) 7 ((i1 * (64 : Int32)) + (gA ob 8 i1)) ((i2 * (16 : Int32)) + i3)) 8 i1 ((gA ob 8 i1) + (1 : Int32))) i1 i2
    else
      X_deliverAt_b89 (sA (sA ob 3 r5 (2 : Int32)) 2 ((i1 * (8 : Int32)) + i2) ((gA ob 2 ((i1 * (8 : Int32)) + i2)) + (1 : Int32))) i1 i2
set_option maxRecDepth 65536 in
set_option maxHeartbeats 4000000 in
theorem X_deliverAt_p {C : Ctx} {top : Nat} {a : Nat} {H : List (Nat × Nat × Rec)} {res : Rec} (ob : Rec) (i1 : Int32) (i2 : Int32) (i3 : Int32) (hf : X_deliverAt ob i1 i2 i3 = some res) : Runs C B11 0 0 0 [vr a, vi i1, vi i2, vi i3, vn, vn, vn] [] (top, (a, 9, ob) :: H) (Ans none (top, (a, 9, res) :: H)) := by
  delta X_deliverAt at hf
  refine Runs.aloadN d11_0 rfl <| Runs.iloadN d11_1 rfl <| Runs.iloadN d11_2 rfl <| Runs.iloadN d11_3 rfl <| ?_
  refine bind_el hf fun r5 hg6 hf => ?_
  refine Runs.callP (N := B12) (W := 0) (as := [.int i1, .int i2, .int i3]) (S' := []) d11_4 w76 w77 w78 rfl cw12 ar12 rk11_12_0 (by decide) rfl rfl (X_stateIndex_pay hg6) <| ans1 <| Runs.istore (P' := [vr a, vi i1, vi i2, vi i3, vi r5, vn, vn]) d11_7 (by decide) rfl <| Runs.aloadN d11_9 rfl <| Runs.getA d11_10 fA_3 w21 (by decide) <| Runs.iload d11_13 rfl <| Runs.iconst d11_15 ci_2 <| ?_
  refine chk_el hf fun hi7 hf => ?_
  refine Runs.iastoreA d11_16 fA_3 (by decide) hi7 <| Runs.aloadN d11_17 rfl <| Runs.getA d11_18 fA_2 w19 (by decide) <| Runs.iloadN d11_21 rfl <| Runs.bipush d11_22 cb_8 <| Runs.imul d11_24 <| Runs.iloadN d11_25 rfl <| Runs.iadd d11_26 <| Runs.aloadN d11_27 rfl <| Runs.getA d11_28 fA_2 w19 (by decide) <| Runs.iloadN d11_31 rfl <| Runs.bipush d11_32 cb_8 <| ?_
  refine Runs.imul d11_34 <| Runs.iloadN d11_35 rfl <| Runs.iadd d11_36 <| ?_
  refine chk_el hf fun hi8 hf => ?_
  refine Runs.ialoadA d11_37 fA_2 (by decide) hi8 <| Runs.iconst d11_38 ci_1 <| Runs.iadd d11_39 <| ?_
  refine chk_el hf fun hi9 hf => ?_
  refine Runs.iastoreA d11_40 fA_2 (by decide) hi9 <| Runs.aloadN d11_41 rfl <| Runs.getA d11_42 fA_8 w31 (by decide) <| Runs.iloadN d11_45 rfl <| ?_
  refine chk_el hf fun hi10 hf => ?_
  refine Runs.ialoadA d11_46 fA_8 (by decide) hi10 <| Runs.istore (P' := [vr a, vi i1, vi i2, vi i3, vi r5, vi (gA ob 8 i1), vn]) d11_47 (by decide) rfl <| Runs.iload d11_49 rfl <| ?_
  refine ite_el hf (fun hc11 hf => ?_) (fun hc11 hf => ?_)
  · exact Runs.ifY (pc' := 89) d11_51 (tlt hc11).1 (by decide) <| Runs.forget [true, true, true, false, false, false, false] rfl <| X_deliverAt_b89_p (sA (sA ob 3 r5 (2 : Int32)) 2 ((i1 * (8 : Int32)) + i2) ((gA ob 2 ((i1 * (8 : Int32)) + i2)) + (1 : Int32))) i1 i2 hf
  · refine Runs.ifN d11_51 (flt hc11).1 <| ?_
    refine Runs.iload d11_54 rfl <| Runs.bipush d11_56 cb_64 <| ?_
    refine ite_el hf (fun hc12 hf => ?_) (fun hc12 hf => ?_)
    · refine Runs.icN d11_58 (tlt hc12).2.1 <| ?_
      refine Runs.aloadN d11_61 rfl <| Runs.getA d11_62 fA_7 w29 (by decide) <| Runs.iloadN d11_65 rfl <| Runs.bipush d11_66 cb_64 <| Runs.imul d11_68 <| Runs.iload d11_69 rfl <| Runs.iadd d11_71 <| Runs.iloadN d11_72 rfl <| Runs.bipush d11_73 cb_16 <| Runs.imul d11_75 <| Runs.iloadN d11_76 rfl <| Runs.iadd d11_77 <| ?_
      refine chk_el hf fun hi13 hf => ?_
      refine Runs.iastoreA d11_78 fA_7 (by decide) hi13 <| Runs.aloadN d11_79 rfl <| Runs.getA d11_80 fA_8 w31 (by decide) <| Runs.iloadN d11_83 rfl <| Runs.iload d11_84 rfl <| Runs.iconst d11_86 ci_1 <| Runs.iadd d11_87 <| ?_
      refine chk_el hf fun hi14 hf => ?_
      exact Runs.iastoreA d11_88 fA_8 (by decide) hi14 <| Runs.forget [true, true, true, false, false, false, false] rfl <| X_deliverAt_b89_p (sA (sA (sA (sA ob 3 r5 (2 : Int32)) 2 ((i1 * (8 : Int32)) + i2) ((gA ob 2 ((i1 * (8 : Int32)) + i2)) + (1 : Int32))) 7 ((i1 * (64 : Int32)) + (gA ob 8 i1)) ((i2 * (16 : Int32)) + i3)) 8 i1 ((gA ob 8 i1) + (1 : Int32))) i1 i2 hf
    · exact Runs.icY (pc' := 89) d11_58 (flt hc12).2.1 (by decide) <| Runs.forget [true, true, true, false, false, false, false] rfl <| X_deliverAt_b89_p (sA (sA ob 3 r5 (2 : Int32)) 2 ((i1 * (8 : Int32)) + i2) ((gA ob 2 ((i1 * (8 : Int32)) + i2)) + (1 : Int32))) i1 i2 hf
theorem X_deliverAt_pay {C : Ctx} {top : Nat} {a : Nat} {H : List (Nat × Nat × Rec)} {res : Rec} {ob : Rec} {i1 : Int32} {i2 : Int32} {i3 : Int32} (hf : X_deliverAt ob i1 i2 i3 = some res) : Pays C B11 [.ref a, .int i1, .int i2, .int i3] (top, (a, 9, ob) :: H) (Ans none (top, (a, 9, res) :: H)) :=
  Pays.of pnK (Nat.le_of_ble_eq_true rfl) (P := [vr a, vi i1, vi i2, vi i3, vn, vn, vn]) 3 rfl (X_deliverAt_p ob i1 i2 i3 hf)
def X_broadcast_w125 (NF : Nat) (k125 : Rec → Int32 → Int32 → Int32 → Int32 → Option (Int32 × Rec)) (ob : Rec) (i1 : Int32) (i2 : Int32) (i3 : Int32) (i4 : Int32) : Option (Int32 × Rec) :=
  if i4 < (gI ob 0) then
    if i4 = i1 then
      chk (512 : Int32) ((i3 * (8 : Int32)) + i4) <|
      k125 (sA ob 5 ((i3 * (8 : Int32)) + i4) (0 : Int32)) i1 i2 i3 (i4 + (1 : Int32))
    else
      chk (512 : Int32) ((i3 * (8 : Int32)) + i4) <|
      k125 (sA ob 5 ((i3 * (8 : Int32)) + i4) (1 : Int32)) i1 i2 i3 (i4 + (1 : Int32))
  else
    some (i2, ob)
def X_broadcast_l125 (NF : Nat) : Nat → Rec → Int32 → Int32 → Int32 → Int32 → Option (Int32 × Rec)
  | 0, _, _, _, _, _ => none
  | n + 1, ob, i1, i2, i3, i4 => X_broadcast_w125 NF (X_broadcast_l125 NF n) ob i1 i2 i3 i4
set_option maxRecDepth 65536 in
set_option maxHeartbeats 4000000 in
theorem X_broadcast_w125_p {C : Ctx} {top : Nat} {a : Nat} {H : List (Nat × Nat × Rec)} {res : Int32 × Rec} {NF : Nat} (k125 : Rec → Int32 → Int32 → Int32 → Int32 → Option (Int32 × Rec)) (hk125 : ∀ (ob : Rec) (i1 : Int32) (i2 : Int32) (i3 : Int32) (i4 : Int32), k125 ob i1 i2 i3 i4 = some res → Runs C B9 0 0 125 [vr a, vi i1, vi i2, vi i3, vi i4] [] (top, (a, 9, ob) :: H) (Ans (some (.int res.1)) (top, (a, 9, res.2) :: H))) (ob : Rec) (i1 : Int32) (i2 : Int32) (i3 : Int32) (i4 : Int32) (hf : X_broadcast_w125 NF k125 ob i1 i2 i3 i4 = some res) : Runs C B9 0 0 125 [vr a, vi i1, vi i2, vi i3, vi i4] [] (top, (a, 9, ob) :: H) (Ans (some (.int res.1)) (top, (a, 9, res.2) :: H)) := by
  delta X_broadcast_w125 at hf
  refine Runs.iload d9_125 rfl <| Runs.aloadN d9_127 rfl <| Runs.getI d9_128 w33 fS_0 <| ?_
  refine ite_el hf (fun hc7 hf => ?_) (fun hc7 hf => ?_)
  · refine Runs.icN d9_131 (tlt hc7).2.1 <| ?_
    refine Runs.aloadN d9_134 rfl <| Runs.getA d9_135 fA_5 w25 (by decide) <| Runs.iloadN d9_138 rfl <| Runs.bipush d9_139 cb_8 <| Runs.imul d9_141 <| Runs.iload d9_142 rfl <| Runs.iadd d9_144 <| Runs.iload d9_145 rfl <| Runs.iloadN d9_147 rfl <| ?_
    refine ite_el hf (fun hc8 hf => ?_) (fun hc8 hf => ?_)
    · refine Runs.icN d9_148 (teq hc8).2 <| ?_
      refine Runs.iconst d9_151 ci_0 <| Runs.goto (pc' := 156) d9_152 (by decide) <| ?_
      refine chk_el hf fun hi9 hf => ?_
      exact Runs.iastoreA d9_156 fA_5 (by decide) hi9 <| Runs.iinc (P' := [vr a, vi i1, vi i2, vi i3, vi (i4 + (1 : Int32))]) d9_157 ci_1 rfl (by decide) rfl <| Runs.goto (pc' := 125) d9_160 (by decide) <| hk125 (sA ob 5 ((i3 * (8 : Int32)) + i4) (0 : Int32)) i1 i2 i3 (i4 + (1 : Int32)) hf
    · refine Runs.icY (pc' := 155) d9_148 (feq hc8).2 (by decide) <| ?_
      refine Runs.iconst d9_155 ci_1 <| ?_
      refine chk_el hf fun hi10 hf => ?_
      exact Runs.iastoreA d9_156 fA_5 (by decide) hi10 <| Runs.iinc (P' := [vr a, vi i1, vi i2, vi i3, vi (i4 + (1 : Int32))]) d9_157 ci_1 rfl (by decide) rfl <| Runs.goto (pc' := 125) d9_160 (by decide) <| hk125 (sA ob 5 ((i3 * (8 : Int32)) + i4) (1 : Int32)) i1 i2 i3 (i4 + (1 : Int32)) hf
  · refine Runs.icY (pc' := 163) d9_131 (flt hc7).2.1 (by decide) <| ?_
    obtain rfl := Option.some.inj hf
    exact Runs.iloadN d9_163 rfl <| Runs.retI d9_164 rfl ⟨by decide, by decide⟩ ⟨rfl, rfl⟩
theorem X_broadcast_l125_p {C : Ctx} {top : Nat} {a : Nat} {H : List (Nat × Nat × Rec)} {res : Int32 × Rec} {NF : Nat} (n : Nat) (ob : Rec) (i1 : Int32) (i2 : Int32) (i3 : Int32) (i4 : Int32) (hf : X_broadcast_l125 NF n ob i1 i2 i3 i4 = some res) : Runs C B9 0 0 125 [vr a, vi i1, vi i2, vi i3, vi i4] [] (top, (a, 9, ob) :: H) (Ans (some (.int res.1)) (top, (a, 9, res.2) :: H)) := by
  induction n generalizing ob i1 i2 i3 i4 with
  | zero => cases (show (none : Option (Int32 × Rec)) = some res from hf)
  | succ n ih => exact X_broadcast_w125_p (X_broadcast_l125 NF n) (fun ob i1 i2 i3 i4 h => ih _ _ _ _ _ h) ob i1 i2 i3 i4 hf
def X_broadcast_w64 (NF : Nat) (k64 : Rec → Int32 → Int32 → Int32 → Int32 → Option (Int32 × Rec)) (ob : Rec) (i1 : Int32) (i2 : Int32) (i3 : Int32) (i4 : Int32) : Option (Int32 × Rec) :=
  if i4 < (gI ob 0) then
    chk (64 : Int32) ((i1 * (8 : Int32)) + i4) <|
    chk (512 : Int32) ((i3 * (8 : Int32)) + i4) <|
    k64 (sA ob 4 ((i3 * (8 : Int32)) + i4) (gA ob 2 ((i1 * (8 : Int32)) + i4))) i1 i2 i3 (i4 + (1 : Int32))
  else
    chk (512 : Int32) ((i3 * (8 : Int32)) + i1) <|
    (X_deliverAt (sA ob 4 ((i3 * (8 : Int32)) + i1) i2) i1 i1 i2).bind fun q5 =>
    X_broadcast_l125 NF NF q5 i1 i2 i3 (0 : Int32)
def X_broadcast_l64 (NF : Nat) : Nat → Rec → Int32 → Int32 → Int32 → Int32 → Option (Int32 × Rec)
  | 0, _, _, _, _, _ => none
  | n + 1, ob, i1, i2, i3, i4 => X_broadcast_w64 NF (X_broadcast_l64 NF n) ob i1 i2 i3 i4
set_option maxRecDepth 65536 in
set_option maxHeartbeats 4000000 in
theorem X_broadcast_w64_p {C : Ctx} {top : Nat} {a : Nat} {H : List (Nat × Nat × Rec)} {res : Int32 × Rec} {NF : Nat} (k64 : Rec → Int32 → Int32 → Int32 → Int32 → Option (Int32 × Rec)) (hk64 : ∀ (ob : Rec) (i1 : Int32) (i2 : Int32) (i3 : Int32) (i4 : Int32), k64 ob i1 i2 i3 i4 = some res → Runs C B9 0 0 64 [vr a, vi i1, vi i2, vi i3, vi i4] [] (top, (a, 9, ob) :: H) (Ans (some (.int res.1)) (top, (a, 9, res.2) :: H))) (ob : Rec) (i1 : Int32) (i2 : Int32) (i3 : Int32) (i4 : Int32) (hf : X_broadcast_w64 NF k64 ob i1 i2 i3 i4 = some res) : Runs C B9 0 0 64 [vr a, vi i1, vi i2, vi i3, vi i4] [] (top, (a, 9, ob) :: H) (Ans (some (.int res.1)) (top, (a, 9, res.2) :: H)) := by
  delta X_broadcast_w64 at hf
  refine Runs.iload d9_64 rfl <| Runs.aloadN d9_66 rfl <| Runs.getI d9_67 w33 fS_0 <| ?_
  refine ite_el hf (fun hc1 hf => ?_) (fun hc1 hf => ?_)
  · refine Runs.icN d9_70 (tlt hc1).2.1 <| ?_
    refine Runs.aloadN d9_73 rfl <| Runs.getA d9_74 fA_4 w23 (by decide) <| Runs.iloadN d9_77 rfl <| Runs.bipush d9_78 cb_8 <| Runs.imul d9_80 <| Runs.iload d9_81 rfl <| Runs.iadd d9_83 <| Runs.aloadN d9_84 rfl <| Runs.getA d9_85 fA_2 w19 (by decide) <| Runs.iloadN d9_88 rfl <| Runs.bipush d9_89 cb_8 <| Runs.imul d9_91 <| ?_
    refine Runs.iload d9_92 rfl <| Runs.iadd d9_94 <| ?_
    refine chk_el hf fun hi2 hf => ?_
    refine Runs.ialoadA d9_95 fA_2 (by decide) hi2 <| ?_
    refine chk_el hf fun hi3 hf => ?_
    exact Runs.iastoreA d9_96 fA_4 (by decide) hi3 <| Runs.iinc (P' := [vr a, vi i1, vi i2, vi i3, vi (i4 + (1 : Int32))]) d9_97 ci_1 rfl (by decide) rfl <| Runs.goto (pc' := 64) d9_100 (by decide) <| hk64 (sA ob 4 ((i3 * (8 : Int32)) + i4) (gA ob 2 ((i1 * (8 : Int32)) + i4))) i1 i2 i3 (i4 + (1 : Int32)) hf
  · refine Runs.icY (pc' := 103) d9_70 (flt hc1).2.1 (by decide) <| ?_
    refine Runs.aloadN d9_103 rfl <| Runs.getA d9_104 fA_4 w23 (by decide) <| Runs.iloadN d9_107 rfl <| Runs.bipush d9_108 cb_8 <| Runs.imul d9_110 <| Runs.iloadN d9_111 rfl <| Runs.iadd d9_112 <| Runs.iloadN d9_113 rfl <| ?_
    refine chk_el hf fun hi4 hf => ?_
    refine Runs.iastoreA d9_114 fA_4 (by decide) hi4 <| Runs.aloadN d9_115 rfl <| Runs.iloadN d9_116 rfl <| Runs.iloadN d9_117 rfl <| Runs.iloadN d9_118 rfl <| ?_
    refine bind_el hf fun q5 hg6 hf => ?_
    exact Runs.callP (N := B11) (W := 0) (as := [.int i1, .int i1, .int i2]) (S' := []) d9_119 w72 w73 w74 rfl cw11 ar11 rk9_11_0 (by decide) rfl rfl (X_deliverAt_pay hg6) <| ans0 <| Runs.iconst d9_122 ci_0 <| Runs.istore (P' := [vr a, vi i1, vi i2, vi i3, vi (0 : Int32)]) d9_123 (by decide) rfl <| X_broadcast_l125_p NF q5 i1 i2 i3 (0 : Int32) hf
theorem X_broadcast_l64_p {C : Ctx} {top : Nat} {a : Nat} {H : List (Nat × Nat × Rec)} {res : Int32 × Rec} {NF : Nat} (n : Nat) (ob : Rec) (i1 : Int32) (i2 : Int32) (i3 : Int32) (i4 : Int32) (hf : X_broadcast_l64 NF n ob i1 i2 i3 i4 = some res) : Runs C B9 0 0 64 [vr a, vi i1, vi i2, vi i3, vi i4] [] (top, (a, 9, ob) :: H) (Ans (some (.int res.1)) (top, (a, 9, res.2) :: H)) := by
  induction n generalizing ob i1 i2 i3 i4 with
  | zero => cases (show (none : Option (Int32 × Rec)) = some res from hf)
  | succ n ih => exact X_broadcast_w64_p (X_broadcast_l64 NF n) (fun ob i1 i2 i3 i4 h => ih _ _ _ _ _ h) ob i1 i2 i3 i4 hf
def X_broadcast (NF : Nat) (ob : Rec) (i1 : Int32) : Option (Int32 × Rec) :=
  (X_validProc ob i1).bind fun r11 =>
  if r11 = (0 : Int32) then
    some ((-1 : Int32), ob)
  else
    chk (8 : Int32) i1 <|
    if (gA ob 1 i1) = (0 : Int32) then
      chk (8 : Int32) i1 <|
      if (gA ob 0 i1) < (gI ob 1) then
        chk (8 : Int32) i1 <|
        chk (8 : Int32) i1 <|
        (X_msgIndex (sA ob 0 i1 ((gA ob 0 i1) + (1 : Int32))) i1 ((gA ob 0 i1) + (1 : Int32))).bind fun r20 =>
        X_broadcast_l64 NF NF (sA ob 0 i1 ((gA ob 0 i1) + (1 : Int32))) i1 ((gA ob 0 i1) + (1 : Int32)) r20 (0 : Int32)
      else
        some ((-3 : Int32), ob)
    else
      some ((-2 : Int32), ob)
set_option maxRecDepth 65536 in
set_option maxHeartbeats 4000000 in
theorem X_broadcast_p {C : Ctx} {top : Nat} {a : Nat} {H : List (Nat × Nat × Rec)} {res : Int32 × Rec} {NF : Nat} (ob : Rec) (i1 : Int32) (hf : X_broadcast NF ob i1 = some res) : Runs C B9 0 0 0 [vr a, vi i1, vn, vn, vn] [] (top, (a, 9, ob) :: H) (Ans (some (.int res.1)) (top, (a, 9, res.2) :: H)) := by
  delta X_broadcast at hf
  refine Runs.aloadN d9_0 rfl <| Runs.iloadN d9_1 rfl <| ?_
  refine bind_el hf fun r11 hg12 hf => ?_
  refine Runs.callP (N := B5) (W := 0) (as := [.int i1]) (S' := []) d9_2 w45 w46 w47 rfl cw5 ar5 rk9_5_0 (by decide) rfl rfl (X_validProc_pay hg12) <| ans1 <| ?_
  refine ite_el hf (fun hc13 hf => ?_) (fun hc13 hf => ?_)
  · refine Runs.ifN d9_5 (teq hc13).2 <| ?_
    obtain rfl := Option.some.inj hf
    exact Runs.iconst d9_8 ci_m1 <| Runs.retI d9_9 rfl ⟨by decide, by decide⟩ ⟨rfl, rfl⟩
  · refine Runs.ifY (pc' := 10) d9_5 (feq hc13).2 (by decide) <| ?_
    refine Runs.aloadN d9_10 rfl <| Runs.getA d9_11 fA_1 w17 (by decide) <| Runs.iloadN d9_14 rfl <| ?_
    refine chk_el hf fun hi14 hf => ?_
    refine Runs.baloadA d9_15 fA_1 (by decide) hi14 <| ?_
    refine ite_el hf (fun hc15 hf => ?_) (fun hc15 hf => ?_)
    · refine Runs.ifY (pc' := 22) d9_16 (teq hc15).1 (by decide) <| ?_
      refine Runs.aloadN d9_22 rfl <| Runs.getA d9_23 fA_0 w14 (by decide) <| Runs.iloadN d9_26 rfl <| ?_
      refine chk_el hf fun hi16 hf => ?_
      refine Runs.ialoadA d9_27 fA_0 (by decide) hi16 <| Runs.aloadN d9_28 rfl <| Runs.getI d9_29 w35 fS_1 <| ?_
      refine ite_el hf (fun hc17 hf => ?_) (fun hc17 hf => ?_)
      · refine Runs.icY (pc' := 38) d9_32 (tlt hc17).1 (by decide) <| ?_
        refine Runs.aloadN d9_38 rfl <| Runs.getA d9_39 fA_0 w14 (by decide) <| Runs.iloadN d9_42 rfl <| ?_
        refine chk_el hf fun hi18 hf => ?_
        refine Runs.ialoadA d9_43 fA_0 (by decide) hi18 <| Runs.iconst d9_44 ci_1 <| Runs.iadd d9_45 <| Runs.istoreN (P' := [vr a, vi i1, vi ((gA ob 0 i1) + (1 : Int32)), vn, vn]) d9_46 (by decide) rfl <| Runs.aloadN d9_47 rfl <| Runs.getA d9_48 fA_0 w14 (by decide) <| Runs.iloadN d9_51 rfl <| Runs.iloadN d9_52 rfl <| ?_
        refine chk_el hf fun hi19 hf => ?_
        refine Runs.iastoreA d9_53 fA_0 (by decide) hi19 <| Runs.aloadN d9_54 rfl <| Runs.iloadN d9_55 rfl <| Runs.iloadN d9_56 rfl <| ?_
        refine bind_el hf fun r20 hg21 hf => ?_
        exact Runs.callP (N := B10) (W := 0) (as := [.int i1, .int ((gA ob 0 i1) + (1 : Int32))]) (S' := []) d9_57 w68 w69 w70 rfl cw10 ar10 rk9_10_0 (by decide) rfl rfl (X_msgIndex_pay hg21) <| ans1 <| Runs.istoreN (P' := [vr a, vi i1, vi ((gA ob 0 i1) + (1 : Int32)), vi r20, vn]) d9_60 (by decide) rfl <| Runs.iconst d9_61 ci_0 <| Runs.istore (P' := [vr a, vi i1, vi ((gA ob 0 i1) + (1 : Int32)), vi r20, vi (0 : Int32)]) d9_62 (by decide) rfl <| X_broadcast_l64_p NF (sA ob 0 i1 ((gA ob 0 i1) + (1 : Int32))) i1 ((gA ob 0 i1) + (1 : Int32)) r20 (0 : Int32) hf
      · refine Runs.icN d9_32 (flt hc17).1 <| ?_
        obtain rfl := Option.some.inj hf
        exact Runs.bipush d9_35 cb_m3 <| Runs.retI d9_37 rfl ⟨by decide, by decide⟩ ⟨rfl, rfl⟩
    · refine Runs.ifN d9_16 (feq hc15).1 <| ?_
      obtain rfl := Option.some.inj hf
      exact Runs.bipush d9_19 cb_m2 <| Runs.retI d9_21 rfl ⟨by decide, by decide⟩ ⟨rfl, rfl⟩
theorem X_broadcast_pay {C : Ctx} {top : Nat} {a : Nat} {H : List (Nat × Nat × Rec)} {res : Int32 × Rec} {NF : Nat} {ob : Rec} {i1 : Int32} (hf : X_broadcast NF ob i1 = some res) : Pays C B9 [.ref a, .int i1] (top, (a, 9, ob) :: H) (Ans (some (.int res.1)) (top, (a, 9, res.2) :: H)) :=
  Pays.of pnK (Nat.le_of_ble_eq_true rfl) (P := [vr a, vi i1, vn, vn, vn]) 3 rfl (X_broadcast_p ob i1 hf)
def X_copyIndex (ob : Rec) (i1 : Int32) (i2 : Int32) (i3 : Int32) : Option (Int32) :=
  some (((((i1 * (8 : Int32)) + i2) - (1 : Int32)) * (8 : Int32)) + i3)
set_option maxRecDepth 65536 in
set_option maxHeartbeats 4000000 in
theorem X_copyIndex_p {C : Ctx} {top : Nat} {a : Nat} {H : List (Nat × Nat × Rec)} {ob : Rec} {res : Int32} (i1 : Int32) (i2 : Int32) (i3 : Int32) (hf : X_copyIndex ob i1 i2 i3 = some res) : Runs C B21 0 0 0 [vr a, vi i1, vi i2, vi i3] [] (top, (a, 9, ob) :: H) (Ans (some (.int res)) (top, (a, 9, ob) :: H)) := by
  delta X_copyIndex at hf
  obtain rfl := Option.some.inj hf
  exact Runs.iloadN d21_0 rfl <| Runs.bipush d21_1 cb_8 <| Runs.imul d21_3 <| Runs.iloadN d21_4 rfl <| Runs.iadd d21_5 <| Runs.iconst d21_6 ci_1 <| Runs.isub d21_7 <| Runs.bipush d21_8 cb_8 <| Runs.imul d21_10 <| Runs.iloadN d21_11 rfl <| Runs.iadd d21_12 <| Runs.retI d21_13 rfl ⟨by decide, by decide⟩ ⟨rfl, rfl⟩
theorem X_copyIndex_pay {C : Ctx} {top : Nat} {a : Nat} {H : List (Nat × Nat × Rec)} {ob : Rec} {res : Int32} {i1 : Int32} {i2 : Int32} {i3 : Int32} (hf : X_copyIndex ob i1 i2 i3 = some res) : Pays C B21 [.ref a, .int i1, .int i2, .int i3] (top, (a, 9, ob) :: H) (Ans (some (.int res)) (top, (a, 9, ob) :: H)) :=
  Pays.of pnK (Nat.le_of_ble_eq_true rfl) (P := [vr a, vi i1, vi i2, vi i3]) 0 rfl (X_copyIndex_p i1 i2 i3 hf)
def X_copies (ob : Rec) (i1 : Int32) (i2 : Int32) (i3 : Int32) : Option (Int32) :=
  (X_exists ob i1 i2).bind fun r1 =>
  if r1 = (0 : Int32) then
    some (-1 : Int32)
  else
    (X_validProc ob i3).bind fun r4 =>
    if r4 = (0 : Int32) then
      some (-1 : Int32)
    else
      (X_copyIndex ob i1 i2 i3).bind fun r7 =>
      chk (512 : Int32) r7 <|
      some (gA ob 5 r7)
set_option maxRecDepth 65536 in
set_option maxHeartbeats 4000000 in
theorem X_copies_p {C : Ctx} {top : Nat} {a : Nat} {H : List (Nat × Nat × Rec)} {ob : Rec} {res : Int32} (i1 : Int32) (i2 : Int32) (i3 : Int32) (hf : X_copies ob i1 i2 i3 = some res) : Runs C B20 0 0 0 [vr a, vi i1, vi i2, vi i3, vn] [] (top, (a, 9, ob) :: H) (Ans (some (.int res)) (top, (a, 9, ob) :: H)) := by
  delta X_copies at hf
  refine Runs.aloadN d20_0 rfl <| Runs.iloadN d20_1 rfl <| Runs.iloadN d20_2 rfl <| ?_
  refine bind_el hf fun r1 hg2 hf => ?_
  refine Runs.callP (N := B16) (W := 0) (as := [.int i1, .int i2]) (S' := []) d20_3 w93 w94 w95 rfl cw16 ar16 rk20_16_0 (by decide) rfl rfl (X_exists_pay hg2) <| ans1 <| ?_
  refine ite_el hf (fun hc3 hf => ?_) (fun hc3 hf => ?_)
  · refine Runs.ifY (pc' := 17) d20_6 (teq hc3).1 (by decide) <| ?_
    obtain rfl := Option.some.inj hf
    exact Runs.iconst d20_17 ci_m1 <| Runs.retI d20_18 rfl ⟨by decide, by decide⟩ ⟨rfl, rfl⟩
  · refine Runs.ifN d20_6 (feq hc3).1 <| ?_
    refine Runs.aloadN d20_9 rfl <| Runs.iloadN d20_10 rfl <| ?_
    refine bind_el hf fun r4 hg5 hf => ?_
    refine Runs.callP (N := B5) (W := 0) (as := [.int i3]) (S' := []) d20_11 w45 w46 w47 rfl cw5 ar5 rk20_5_0 (by decide) rfl rfl (X_validProc_pay hg5) <| ans1 <| ?_
    refine ite_el hf (fun hc6 hf => ?_) (fun hc6 hf => ?_)
    · refine Runs.ifN d20_14 (teq hc6).2 <| ?_
      obtain rfl := Option.some.inj hf
      exact Runs.iconst d20_17 ci_m1 <| Runs.retI d20_18 rfl ⟨by decide, by decide⟩ ⟨rfl, rfl⟩
    · refine Runs.ifY (pc' := 19) d20_14 (feq hc6).2 (by decide) <| ?_
      refine Runs.aloadN d20_19 rfl <| Runs.iloadN d20_20 rfl <| Runs.iloadN d20_21 rfl <| Runs.iloadN d20_22 rfl <| ?_
      refine bind_el hf fun r7 hg8 hf => ?_
      refine Runs.callP (N := B21) (W := 0) (as := [.int i1, .int i2, .int i3]) (S' := []) d20_23 w115 w116 w117 rfl cw21 ar21 rk20_21_0 (by decide) rfl rfl (X_copyIndex_pay hg8) <| ans1 <| Runs.istore (P' := [vr a, vi i1, vi i2, vi i3, vi r7]) d20_26 (by decide) rfl <| Runs.aloadN d20_28 rfl <| Runs.getA d20_29 fA_5 w25 (by decide) <| Runs.iload d20_32 rfl <| ?_
      refine chk_el hf fun hi9 hf => ?_
      obtain rfl := Option.some.inj hf
      exact Runs.ialoadA d20_34 fA_5 (by decide) hi9 <| Runs.retI d20_35 rfl ⟨by decide, by decide⟩ ⟨rfl, rfl⟩
theorem X_copies_pay {C : Ctx} {top : Nat} {a : Nat} {H : List (Nat × Nat × Rec)} {ob : Rec} {res : Int32} {i1 : Int32} {i2 : Int32} {i3 : Int32} (hf : X_copies ob i1 i2 i3 = some res) : Pays C B20 [.ref a, .int i1, .int i2, .int i3] (top, (a, 9, ob) :: H) (Ans (some (.int res)) (top, (a, 9, ob) :: H)) :=
  Pays.of pnK (Nat.le_of_ble_eq_true rfl) (P := [vr a, vi i1, vi i2, vi i3, vn]) 1 rfl (X_copies_p i1 i2 i3 hf)
def X_isDeliverable_w63 (NF : Nat) (ob : Rec) (k63 : Int32 → Int32 → Int32 → Int32 → Option (Int32)) (i1 : Int32) (i2 : Int32) (i5 : Int32) (i6 : Int32) : Option (Int32) :=
  if i6 < (gI ob 0) then
    if i6 = i2 then
      k63 i1 i2 i5 (i6 + (1 : Int32))
    else
      chk (512 : Int32) ((i5 * (8 : Int32)) + i6) <|
      chk (64 : Int32) ((i1 * (8 : Int32)) + i6) <|
      if (gA ob 2 ((i1 * (8 : Int32)) + i6)) < (gA ob 4 ((i5 * (8 : Int32)) + i6)) then
        some (0 : Int32)
      else
        k63 i1 i2 i5 (i6 + (1 : Int32))
  else
    some (1 : Int32)
def X_isDeliverable_l63 (NF : Nat) (ob : Rec) : Nat → Int32 → Int32 → Int32 → Int32 → Option (Int32)
  | 0, _, _, _, _ => none
  | n + 1, i1, i2, i5, i6 => X_isDeliverable_w63 NF ob (X_isDeliverable_l63 NF ob n) i1 i2 i5 i6
set_option maxRecDepth 65536 in
set_option maxHeartbeats 4000000 in
theorem X_isDeliverable_w63_p {C : Ctx} {top : Nat} {a : Nat} {H : List (Nat × Nat × Rec)} {ob : Rec} {res : Int32} {NF : Nat} (k63 : Int32 → Int32 → Int32 → Int32 → Option (Int32)) (hk63 : ∀ (i1 : Int32) (i2 : Int32) (i5 : Int32) (i6 : Int32), k63 i1 i2 i5 i6 = some res → Runs C B24 0 0 63 [vr a, vi i1, vi i2, vn, vn, vi i5, vi i6] [] (top, (a, 9, ob) :: H) (Ans (some (.int res)) (top, (a, 9, ob) :: H))) (i1 : Int32) (i2 : Int32) (i5 : Int32) (i6 : Int32) (hf : X_isDeliverable_w63 NF ob k63 i1 i2 i5 i6 = some res) : Runs C B24 0 0 63 [vr a, vi i1, vi i2, vn, vn, vi i5, vi i6] [] (top, (a, 9, ob) :: H) (Ans (some (.int res)) (top, (a, 9, ob) :: H)) := by
  delta X_isDeliverable_w63 at hf
  refine Runs.iload d24_63 rfl <| Runs.aloadN d24_65 rfl <| Runs.getI d24_66 w33 fS_0 <| ?_
  refine ite_el hf (fun hc1 hf => ?_) (fun hc1 hf => ?_)
  · refine Runs.icN d24_69 (tlt hc1).2.1 <| ?_
    refine Runs.iload d24_72 rfl <| Runs.iloadN d24_74 rfl <| ?_
    refine ite_el hf (fun hc2 hf => ?_) (fun hc2 hf => ?_)
    · refine Runs.icY (pc' := 108) d24_75 (teq hc2).1 (by decide) <| ?_
      exact Runs.iinc (P' := [vr a, vi i1, vi i2, vn, vn, vi i5, vi (i6 + (1 : Int32))]) d24_108 ci_1 rfl (by decide) rfl <| Runs.goto (pc' := 63) d24_111 (by decide) <| hk63 i1 i2 i5 (i6 + (1 : Int32)) hf
    · refine Runs.icN d24_75 (feq hc2).1 <| ?_
      refine Runs.aloadN d24_78 rfl <| Runs.getA d24_79 fA_4 w23 (by decide) <| Runs.iload d24_82 rfl <| Runs.bipush d24_84 cb_8 <| Runs.imul d24_86 <| Runs.iload d24_87 rfl <| Runs.iadd d24_89 <| ?_
      refine chk_el hf fun hi3 hf => ?_
      refine Runs.ialoadA d24_90 fA_4 (by decide) hi3 <| Runs.aloadN d24_91 rfl <| Runs.getA d24_92 fA_2 w19 (by decide) <| Runs.iloadN d24_95 rfl <| Runs.bipush d24_96 cb_8 <| Runs.imul d24_98 <| Runs.iload d24_99 rfl <| Runs.iadd d24_101 <| ?_
      refine chk_el hf fun hi4 hf => ?_
      refine Runs.ialoadA d24_102 fA_2 (by decide) hi4 <| ?_
      refine ite_el hf (fun hc5 hf => ?_) (fun hc5 hf => ?_)
      · refine Runs.icN d24_103 (tlt hc5).2.2.2 <| ?_
        obtain rfl := Option.some.inj hf
        exact Runs.iconst d24_106 ci_0 <| Runs.retZ (y := (0 : Int32)) d24_107 rfl ⟨by decide, by decide⟩ rfl ⟨rfl, rfl⟩
      · refine Runs.icY (pc' := 108) d24_103 (flt hc5).2.2.2 (by decide) <| ?_
        exact Runs.iinc (P' := [vr a, vi i1, vi i2, vn, vn, vi i5, vi (i6 + (1 : Int32))]) d24_108 ci_1 rfl (by decide) rfl <| Runs.goto (pc' := 63) d24_111 (by decide) <| hk63 i1 i2 i5 (i6 + (1 : Int32)) hf
  · refine Runs.icY (pc' := 114) d24_69 (flt hc1).2.1 (by decide) <| ?_
    obtain rfl := Option.some.inj hf
    exact Runs.iconst d24_114 ci_1 <| Runs.retZ (y := (1 : Int32)) d24_115 rfl ⟨by decide, by decide⟩ rfl ⟨rfl, rfl⟩
theorem X_isDeliverable_l63_p {C : Ctx} {top : Nat} {a : Nat} {H : List (Nat × Nat × Rec)} {ob : Rec} {res : Int32} {NF : Nat} (n : Nat) (i1 : Int32) (i2 : Int32) (i5 : Int32) (i6 : Int32) (hf : X_isDeliverable_l63 NF ob n i1 i2 i5 i6 = some res) : Runs C B24 0 0 63 [vr a, vi i1, vi i2, vn, vn, vi i5, vi i6] [] (top, (a, 9, ob) :: H) (Ans (some (.int res)) (top, (a, 9, ob) :: H)) := by
  induction n generalizing i1 i2 i5 i6 with
  | zero => cases (show (none : Option (Int32)) = some res from hf)
  | succ n ih => exact X_isDeliverable_w63_p (X_isDeliverable_l63 NF ob n) (fun i1 i2 i5 i6 h => ih _ _ _ _ h) i1 i2 i5 i6 hf
def X_isDeliverable (NF : Nat) (ob : Rec) (i1 : Int32) (i2 : Int32) (i3 : Int32) : Option (Int32) :=
  (X_exists ob i2 i3).bind fun r6 =>
  if r6 = (0 : Int32) then
    some (0 : Int32)
  else
    (X_stateIndex ob i1 i2 i3).bind fun r9 =>
    chk (512 : Int32) r9 <|
    if (gA ob 3 r9) = (1 : Int32) then
      chk (64 : Int32) ((i1 * (8 : Int32)) + i2) <|
      if i3 = ((gA ob 2 ((i1 * (8 : Int32)) + i2)) + (1 : Int32)) then
        (X_msgIndex ob i2 i3).bind fun r15 =>
        X_isDeliverable_l63 NF ob NF i1 i2 r15 (0 : Int32)
      else
        some (0 : Int32)
    else
      some (0 : Int32)
set_option maxRecDepth 65536 in
set_option maxHeartbeats 4000000 in
theorem X_isDeliverable_p {C : Ctx} {top : Nat} {a : Nat} {H : List (Nat × Nat × Rec)} {ob : Rec} {res : Int32} {NF : Nat} (i1 : Int32) (i2 : Int32) (i3 : Int32) (hf : X_isDeliverable NF ob i1 i2 i3 = some res) : Runs C B24 0 0 0 [vr a, vi i1, vi i2, vi i3, vn, vn, vn] [] (top, (a, 9, ob) :: H) (Ans (some (.int res)) (top, (a, 9, ob) :: H)) := by
  delta X_isDeliverable at hf
  refine Runs.aloadN d24_0 rfl <| Runs.iloadN d24_1 rfl <| Runs.iloadN d24_2 rfl <| ?_
  refine bind_el hf fun r6 hg7 hf => ?_
  refine Runs.callP (N := B16) (W := 0) (as := [.int i2, .int i3]) (S' := []) d24_3 w93 w94 w95 rfl cw16 ar16 rk24_16_0 (by decide) rfl rfl (X_exists_pay hg7) <| ans1 <| ?_
  refine ite_el hf (fun hc8 hf => ?_) (fun hc8 hf => ?_)
  · refine Runs.ifN d24_6 (teq hc8).2 <| ?_
    obtain rfl := Option.some.inj hf
    exact Runs.iconst d24_9 ci_0 <| Runs.retZ (y := (0 : Int32)) d24_10 rfl ⟨by decide, by decide⟩ rfl ⟨rfl, rfl⟩
  · refine Runs.ifY (pc' := 11) d24_6 (feq hc8).2 (by decide) <| ?_
    refine Runs.aloadN d24_11 rfl <| Runs.iloadN d24_12 rfl <| Runs.iloadN d24_13 rfl <| Runs.iloadN d24_14 rfl <| ?_
    refine bind_el hf fun r9 hg10 hf => ?_
    refine Runs.callP (N := B12) (W := 0) (as := [.int i1, .int i2, .int i3]) (S' := []) d24_15 w76 w77 w78 rfl cw12 ar12 rk24_12_0 (by decide) rfl rfl (X_stateIndex_pay hg10) <| ans1 <| Runs.istore (P' := [vr a, vi i1, vi i2, vi i3, vi r9, vn, vn]) d24_18 (by decide) rfl <| Runs.aloadN d24_20 rfl <| Runs.getA d24_21 fA_3 w21 (by decide) <| Runs.iload d24_24 rfl <| ?_
    refine chk_el hf fun hi11 hf => ?_
    refine Runs.ialoadA d24_26 fA_3 (by decide) hi11 <| Runs.iconst d24_27 ci_1 <| ?_
    refine ite_el hf (fun hc12 hf => ?_) (fun hc12 hf => ?_)
    · refine Runs.icY (pc' := 33) d24_28 (teq hc12).1 (by decide) <| ?_
      refine Runs.iloadN d24_33 rfl <| Runs.aloadN d24_34 rfl <| Runs.getA d24_35 fA_2 w19 (by decide) <| Runs.iloadN d24_38 rfl <| Runs.bipush d24_39 cb_8 <| Runs.imul d24_41 <| Runs.iloadN d24_42 rfl <| Runs.iadd d24_43 <| ?_
      refine chk_el hf fun hi13 hf => ?_
      refine Runs.ialoadA d24_44 fA_2 (by decide) hi13 <| Runs.iconst d24_45 ci_1 <| Runs.iadd d24_46 <| ?_
      refine ite_el hf (fun hc14 hf => ?_) (fun hc14 hf => ?_)
      · refine Runs.icY (pc' := 52) d24_47 (teq hc14).1 (by decide) <| ?_
        refine Runs.aloadN d24_52 rfl <| Runs.iloadN d24_53 rfl <| Runs.iloadN d24_54 rfl <| ?_
        refine bind_el hf fun r15 hg16 hf => ?_
        exact Runs.callP (N := B10) (W := 0) (as := [.int i2, .int i3]) (S' := []) d24_55 w68 w69 w70 rfl cw10 ar10 rk24_10_0 (by decide) rfl rfl (X_msgIndex_pay hg16) <| ans1 <| Runs.istore (P' := [vr a, vi i1, vi i2, vi i3, vi r9, vi r15, vn]) d24_58 (by decide) rfl <| Runs.iconst d24_60 ci_0 <| Runs.istore (P' := [vr a, vi i1, vi i2, vi i3, vi r9, vi r15, vi (0 : Int32)]) d24_61 (by decide) rfl <| Runs.forget [true, true, true, false, false, true, true] rfl <| X_isDeliverable_l63_p NF i1 i2 r15 (0 : Int32) hf
      · refine Runs.icN d24_47 (feq hc14).1 <| ?_
        obtain rfl := Option.some.inj hf
        exact Runs.iconst d24_50 ci_0 <| Runs.retZ (y := (0 : Int32)) d24_51 rfl ⟨by decide, by decide⟩ rfl ⟨rfl, rfl⟩
    · refine Runs.icN d24_28 (feq hc12).1 <| ?_
      obtain rfl := Option.some.inj hf
      exact Runs.iconst d24_31 ci_0 <| Runs.retZ (y := (0 : Int32)) d24_32 rfl ⟨by decide, by decide⟩ rfl ⟨rfl, rfl⟩
theorem X_isDeliverable_pay {C : Ctx} {top : Nat} {a : Nat} {H : List (Nat × Nat × Rec)} {ob : Rec} {res : Int32} {NF : Nat} {i1 : Int32} {i2 : Int32} {i3 : Int32} (hf : X_isDeliverable NF ob i1 i2 i3 = some res) : Pays C B24 [.ref a, .int i1, .int i2, .int i3] (top, (a, 9, ob) :: H) (Ans (some (.int res)) (top, (a, 9, ob) :: H)) :=
  Pays.of pnK (Nat.le_of_ble_eq_true rfl) (P := [vr a, vi i1, vi i2, vi i3, vn, vn, vn]) 3 rfl (X_isDeliverable_p i1 i2 i3 hf)
def X_cascade_b73 (NF : Nat) (k4 : Rec → Int32 → Int32 → Int32 → Option (Int32 × Rec)) (ob : Rec) (i1 : Int32) (i2 : Int32) (i3 : Int32) (i4 : Int32) (i5 : Int32) : Option (Int32 × Rec) :=
  if i4 < (0 : Int32) then
    some (i2, ob)
  else
    (X_deliverAt ob i1 i4 i5).bind fun q8 =>
    k4 q8 i1 (i2 + (1 : Int32)) (i3 + (1 : Int32))
set_option maxRecDepth 65536 in
set_option maxHeartbeats 4000000 in
theorem X_cascade_b73_p {C : Ctx} {top : Nat} {a : Nat} {H : List (Nat × Nat × Rec)} {res : Int32 × Rec} {NF : Nat} (k4 : Rec → Int32 → Int32 → Int32 → Option (Int32 × Rec)) (hk4 : ∀ (ob : Rec) (i1 : Int32) (i2 : Int32) (i3 : Int32), k4 ob i1 i2 i3 = some res → Runs C B23 0 0 4 [vr a, vi i1, vi i2, vi i3, vn, vn, vn, vn] [] (top, (a, 9, ob) :: H) (Ans (some (.int res.1)) (top, (a, 9, res.2) :: H))) (ob : Rec) (i1 : Int32) (i2 : Int32) (i3 : Int32) (i4 : Int32) (i5 : Int32) (hf : X_cascade_b73 NF k4 ob i1 i2 i3 i4 i5 = some res) : Runs C B23 0 0 73 [vr a, vi i1, vi i2, vi i3, vi i4, vi i5, vn, vn] [] (top, (a, 9, ob) :: H) (Ans (some (.int res.1)) (top, (a, 9, res.2) :: H)) := by
  delta X_cascade_b73 at hf
  refine Runs.iload d23_73 rfl <| ?_
  refine ite_el hf (fun hc7 hf => ?_) (fun hc7 hf => ?_)
  · refine Runs.ifN d23_75 (tlt hc7).2.1 <| ?_
    obtain rfl := Option.some.inj hf
    exact Runs.goto (pc' := 99) d23_78 (by decide) <| Runs.iloadN d23_99 rfl <| Runs.retI d23_100 rfl ⟨by decide, by decide⟩ ⟨rfl, rfl⟩
  · refine Runs.ifY (pc' := 81) d23_75 (flt hc7).2.1 (by decide) <| ?_
    refine Runs.aloadN d23_81 rfl <| Runs.iloadN d23_82 rfl <| Runs.iload d23_83 rfl <| Runs.iload d23_85 rfl <| ?_
    refine bind_el hf fun q8 hg9 hf => ?_
    exact Runs.callP (N := B11) (W := 0) (as := [.int i1, .int i4, .int i5]) (S' := []) d23_87 w72 w73 w74 rfl cw11 ar11 rk23_11_0 (by decide) rfl rfl (X_deliverAt_pay hg9) <| ans0 <| Runs.iinc (P' := [vr a, vi i1, vi (i2 + (1 : Int32)), vi i3, vi i4, vi i5, vn, vn]) d23_90 ci_1 rfl (by decide) rfl <| Runs.iinc (P' := [vr a, vi i1, vi (i2 + (1 : Int32)), vi (i3 + (1 : Int32)), vi i4, vi i5, vn, vn]) d23_93 ci_1 rfl (by decide) rfl <| Runs.goto (pc' := 4) d23_96 (by decide) <| Runs.forget [true, true, true, true, false, false, false, false] rfl <| hk4 q8 i1 (i2 + (1 : Int32)) (i3 + (1 : Int32)) hf
def X_cascade_w19 (NF : Nat) (k4 : Rec → Int32 → Int32 → Int32 → Option (Int32 × Rec)) (k19 : Rec → Int32 → Int32 → Int32 → Int32 → Int32 → Int32 → Option (Int32 × Rec)) (ob : Rec) (i1 : Int32) (i2 : Int32) (i3 : Int32) (i4 : Int32) (i5 : Int32) (i6 : Int32) : Option (Int32 × Rec) :=
  if i6 < (gI ob 0) then
    chk (64 : Int32) ((i1 * (8 : Int32)) + i6) <|
    (X_isDeliverable NF ob i1 i6 ((gA ob 2 ((i1 * (8 : Int32)) + i6)) + (1 : Int32))).bind fun r4 =>
    if r4 = (0 : Int32) then
      k19 ob i1 i2 i3 i4 i5 (i6 + (1 : Int32))
    else
      X_cascade_b73 NF k4 ob i1 i2 i3 i6 ((gA ob 2 ((i1 * (8 : Int32)) + i6)) + (1 : Int32))
  else
    X_cascade_b73 NF k4 ob i1 i2 i3 i4 i5
def X_cascade_l19 (NF : Nat) (k4 : Rec → Int32 → Int32 → Int32 → Option (Int32 × Rec)) : Nat → Rec → Int32 → Int32 → Int32 → Int32 → Int32 → Int32 → Option (Int32 × Rec)
  | 0, _, _, _, _, _, _, _ => none
  | n + 1, ob, i1, i2, i3, i4, i5, i6 => X_cascade_w19 NF k4 (X_cascade_l19 NF k4 n) ob i1 i2 i3 i4 i5 i6
set_option maxRecDepth 65536 in
set_option maxHeartbeats 4000000 in
theorem X_cascade_w19_p {C : Ctx} {top : Nat} {a : Nat} {H : List (Nat × Nat × Rec)} {res : Int32 × Rec} {NF : Nat} (k4 : Rec → Int32 → Int32 → Int32 → Option (Int32 × Rec)) (hk4 : ∀ (ob : Rec) (i1 : Int32) (i2 : Int32) (i3 : Int32), k4 ob i1 i2 i3 = some res → Runs C B23 0 0 4 [vr a, vi i1, vi i2, vi i3, vn, vn, vn, vn] [] (top, (a, 9, ob) :: H) (Ans (some (.int res.1)) (top, (a, 9, res.2) :: H))) (k19 : Rec → Int32 → Int32 → Int32 → Int32 → Int32 → Int32 → Option (Int32 × Rec)) (hk19 : ∀ (ob : Rec) (i1 : Int32) (i2 : Int32) (i3 : Int32) (i4 : Int32) (i5 : Int32) (i6 : Int32), k19 ob i1 i2 i3 i4 i5 i6 = some res → Runs C B23 0 0 19 [vr a, vi i1, vi i2, vi i3, vi i4, vi i5, vi i6, vn] [] (top, (a, 9, ob) :: H) (Ans (some (.int res.1)) (top, (a, 9, res.2) :: H))) (ob : Rec) (i1 : Int32) (i2 : Int32) (i3 : Int32) (i4 : Int32) (i5 : Int32) (i6 : Int32) (hf : X_cascade_w19 NF k4 k19 ob i1 i2 i3 i4 i5 i6 = some res) : Runs C B23 0 0 19 [vr a, vi i1, vi i2, vi i3, vi i4, vi i5, vi i6, vn] [] (top, (a, 9, ob) :: H) (Ans (some (.int res.1)) (top, (a, 9, res.2) :: H)) := by
  delta X_cascade_w19 at hf
  refine Runs.iload d23_19 rfl <| Runs.aloadN d23_21 rfl <| Runs.getI d23_22 w33 fS_0 <| ?_
  refine ite_el hf (fun hc2 hf => ?_) (fun hc2 hf => ?_)
  · refine Runs.icN d23_25 (tlt hc2).2.1 <| ?_
    refine Runs.aloadN d23_28 rfl <| Runs.getA d23_29 fA_2 w19 (by decide) <| Runs.iloadN d23_32 rfl <| Runs.bipush d23_33 cb_8 <| Runs.imul d23_35 <| Runs.iload d23_36 rfl <| Runs.iadd d23_38 <| ?_
    refine chk_el hf fun hi3 hf => ?_
    refine Runs.ialoadA d23_39 fA_2 (by decide) hi3 <| Runs.iconst d23_40 ci_1 <| Runs.iadd d23_41 <| Runs.istore (P' := [vr a, vi i1, vi i2, vi i3, vi i4, vi i5, vi i6, vi ((gA ob 2 ((i1 * (8 : Int32)) + i6)) + (1 : Int32))]) d23_42 (by decide) rfl <| Runs.aloadN d23_44 rfl <| Runs.iloadN d23_45 rfl <| Runs.iload d23_46 rfl <| Runs.iload d23_48 rfl <| ?_
    refine bind_el hf fun r4 hg5 hf => ?_
    refine Runs.callP (N := B24) (W := 0) (as := [.int i1, .int i6, .int ((gA ob 2 ((i1 * (8 : Int32)) + i6)) + (1 : Int32))]) (S' := []) d23_50 w128 w129 w130 rfl cw24 ar24 rk23_24_0 (by decide) rfl rfl (X_isDeliverable_pay hg5) <| ans1 <| ?_
    refine ite_el hf (fun hc6 hf => ?_) (fun hc6 hf => ?_)
    · refine Runs.ifY (pc' := 67) d23_53 (teq hc6).1 (by decide) <| ?_
      exact Runs.iinc (P' := [vr a, vi i1, vi i2, vi i3, vi i4, vi i5, vi (i6 + (1 : Int32)), vi ((gA ob 2 ((i1 * (8 : Int32)) + i6)) + (1 : Int32))]) d23_67 ci_1 rfl (by decide) rfl <| Runs.goto (pc' := 19) d23_70 (by decide) <| Runs.forget [true, true, true, true, true, true, true, false] rfl <| hk19 ob i1 i2 i3 i4 i5 (i6 + (1 : Int32)) hf
    · refine Runs.ifN d23_53 (feq hc6).1 <| ?_
      exact Runs.iload d23_56 rfl <| Runs.istore (P' := [vr a, vi i1, vi i2, vi i3, vi i6, vi i5, vi i6, vi ((gA ob 2 ((i1 * (8 : Int32)) + i6)) + (1 : Int32))]) d23_58 (by decide) rfl <| Runs.iload d23_60 rfl <| Runs.istore (P' := [vr a, vi i1, vi i2, vi i3, vi i6, vi ((gA ob 2 ((i1 * (8 : Int32)) + i6)) + (1 : Int32)), vi i6, vi ((gA ob 2 ((i1 * (8 : Int32)) + i6)) + (1 : Int32))]) d23_62 (by decide) rfl <| Runs.goto (pc' := 73) d23_64 (by decide) <| Runs.forget [true, true, true, true, true, true, false, false] rfl <| X_cascade_b73_p k4 hk4 ob i1 i2 i3 i6 ((gA ob 2 ((i1 * (8 : Int32)) + i6)) + (1 : Int32)) hf
  · exact Runs.icY (pc' := 73) d23_25 (flt hc2).2.1 (by decide) <| Runs.forget [true, true, true, true, true, true, false, false] rfl <| X_cascade_b73_p k4 hk4 ob i1 i2 i3 i4 i5 hf
theorem X_cascade_l19_p {C : Ctx} {top : Nat} {a : Nat} {H : List (Nat × Nat × Rec)} {res : Int32 × Rec} {NF : Nat} (k4 : Rec → Int32 → Int32 → Int32 → Option (Int32 × Rec)) (hk4 : ∀ (ob : Rec) (i1 : Int32) (i2 : Int32) (i3 : Int32), k4 ob i1 i2 i3 = some res → Runs C B23 0 0 4 [vr a, vi i1, vi i2, vi i3, vn, vn, vn, vn] [] (top, (a, 9, ob) :: H) (Ans (some (.int res.1)) (top, (a, 9, res.2) :: H))) (n : Nat) (ob : Rec) (i1 : Int32) (i2 : Int32) (i3 : Int32) (i4 : Int32) (i5 : Int32) (i6 : Int32) (hf : X_cascade_l19 NF k4 n ob i1 i2 i3 i4 i5 i6 = some res) : Runs C B23 0 0 19 [vr a, vi i1, vi i2, vi i3, vi i4, vi i5, vi i6, vn] [] (top, (a, 9, ob) :: H) (Ans (some (.int res.1)) (top, (a, 9, res.2) :: H)) := by
  induction n generalizing ob i1 i2 i3 i4 i5 i6 with
  | zero => cases (show (none : Option (Int32 × Rec)) = some res from hf)
  | succ n ih => exact X_cascade_w19_p k4 hk4 (X_cascade_l19 NF k4 n) (fun ob i1 i2 i3 i4 i5 i6 h => ih _ _ _ _ _ _ _ h) ob i1 i2 i3 i4 i5 i6 hf
def X_cascade_w4 (NF : Nat) (k4 : Rec → Int32 → Int32 → Int32 → Option (Int32 × Rec)) (ob : Rec) (i1 : Int32) (i2 : Int32) (i3 : Int32) : Option (Int32 × Rec) :=
  if i3 < (65 : Int32) then
    X_cascade_l19 NF k4 NF ob i1 i2 i3 (-1 : Int32) (0 : Int32) (0 : Int32)
  else
    some (i2, ob)
def X_cascade_l4 (NF : Nat) : Nat → Rec → Int32 → Int32 → Int32 → Option (Int32 × Rec)
  | 0, _, _, _, _ => none
  | n + 1, ob, i1, i2, i3 => X_cascade_w4 NF (X_cascade_l4 NF n) ob i1 i2 i3
set_option maxRecDepth 65536 in
set_option maxHeartbeats 4000000 in
theorem X_cascade_w4_p {C : Ctx} {top : Nat} {a : Nat} {H : List (Nat × Nat × Rec)} {res : Int32 × Rec} {NF : Nat} (k4 : Rec → Int32 → Int32 → Int32 → Option (Int32 × Rec)) (hk4 : ∀ (ob : Rec) (i1 : Int32) (i2 : Int32) (i3 : Int32), k4 ob i1 i2 i3 = some res → Runs C B23 0 0 4 [vr a, vi i1, vi i2, vi i3, vn, vn, vn, vn] [] (top, (a, 9, ob) :: H) (Ans (some (.int res.1)) (top, (a, 9, res.2) :: H))) (ob : Rec) (i1 : Int32) (i2 : Int32) (i3 : Int32) (hf : X_cascade_w4 NF k4 ob i1 i2 i3 = some res) : Runs C B23 0 0 4 [vr a, vi i1, vi i2, vi i3, vn, vn, vn, vn] [] (top, (a, 9, ob) :: H) (Ans (some (.int res.1)) (top, (a, 9, res.2) :: H)) := by
  delta X_cascade_w4 at hf
  refine Runs.iloadN d23_4 rfl <| Runs.bipush d23_5 cb_65 <| ?_
  refine ite_el hf (fun hc1 hf => ?_) (fun hc1 hf => ?_)
  · refine Runs.icN d23_7 (tlt hc1).2.1 <| ?_
    exact Runs.iconst d23_10 ci_m1 <| Runs.istore (P' := [vr a, vi i1, vi i2, vi i3, vi (-1 : Int32), vn, vn, vn]) d23_11 (by decide) rfl <| Runs.iconst d23_13 ci_0 <| Runs.istore (P' := [vr a, vi i1, vi i2, vi i3, vi (-1 : Int32), vi (0 : Int32), vn, vn]) d23_14 (by decide) rfl <| Runs.iconst d23_16 ci_0 <| Runs.istore (P' := [vr a, vi i1, vi i2, vi i3, vi (-1 : Int32), vi (0 : Int32), vi (0 : Int32), vn]) d23_17 (by decide) rfl <| X_cascade_l19_p k4 hk4 NF ob i1 i2 i3 (-1 : Int32) (0 : Int32) (0 : Int32) hf
  · refine Runs.icY (pc' := 99) d23_7 (flt hc1).2.1 (by decide) <| ?_
    obtain rfl := Option.some.inj hf
    exact Runs.iloadN d23_99 rfl <| Runs.retI d23_100 rfl ⟨by decide, by decide⟩ ⟨rfl, rfl⟩
theorem X_cascade_l4_p {C : Ctx} {top : Nat} {a : Nat} {H : List (Nat × Nat × Rec)} {res : Int32 × Rec} {NF : Nat} (n : Nat) (ob : Rec) (i1 : Int32) (i2 : Int32) (i3 : Int32) (hf : X_cascade_l4 NF n ob i1 i2 i3 = some res) : Runs C B23 0 0 4 [vr a, vi i1, vi i2, vi i3, vn, vn, vn, vn] [] (top, (a, 9, ob) :: H) (Ans (some (.int res.1)) (top, (a, 9, res.2) :: H)) := by
  induction n generalizing ob i1 i2 i3 with
  | zero => cases (show (none : Option (Int32 × Rec)) = some res from hf)
  | succ n ih => exact X_cascade_w4_p (X_cascade_l4 NF n) (fun ob i1 i2 i3 h => ih _ _ _ _ h) ob i1 i2 i3 hf
def X_cascade (NF : Nat) (ob : Rec) (i1 : Int32) : Option (Int32 × Rec) :=
  X_cascade_l4 NF NF ob i1 (0 : Int32) (0 : Int32)
set_option maxRecDepth 65536 in
set_option maxHeartbeats 4000000 in
theorem X_cascade_p {C : Ctx} {top : Nat} {a : Nat} {H : List (Nat × Nat × Rec)} {res : Int32 × Rec} {NF : Nat} (ob : Rec) (i1 : Int32) (hf : X_cascade NF ob i1 = some res) : Runs C B23 0 0 0 [vr a, vi i1, vn, vn, vn, vn, vn, vn] [] (top, (a, 9, ob) :: H) (Ans (some (.int res.1)) (top, (a, 9, res.2) :: H)) := by
  delta X_cascade at hf
  exact Runs.iconst d23_0 ci_0 <| Runs.istoreN (P' := [vr a, vi i1, vi (0 : Int32), vn, vn, vn, vn, vn]) d23_1 (by decide) rfl <| Runs.iconst d23_2 ci_0 <| Runs.istoreN (P' := [vr a, vi i1, vi (0 : Int32), vi (0 : Int32), vn, vn, vn, vn]) d23_3 (by decide) rfl <| X_cascade_l4_p NF ob i1 (0 : Int32) (0 : Int32) hf
theorem X_cascade_pay {C : Ctx} {top : Nat} {a : Nat} {H : List (Nat × Nat × Rec)} {res : Int32 × Rec} {NF : Nat} {ob : Rec} {i1 : Int32} (hf : X_cascade NF ob i1 = some res) : Pays C B23 [.ref a, .int i1] (top, (a, 9, ob) :: H) (Ans (some (.int res.1)) (top, (a, 9, res.2) :: H)) :=
  Pays.of pnK (Nat.le_of_ble_eq_true rfl) (P := [vr a, vi i1, vn, vn, vn, vn, vn, vn]) 6 rfl (X_cascade_p ob i1 hf)
def X_receive (NF : Nat) (ob : Rec) (i1 : Int32) (i2 : Int32) (i3 : Int32) : Option (Int32 × Rec) :=
  (X_validProc ob i1).bind fun r1 =>
  if r1 = (0 : Int32) then
    some ((-1 : Int32), ob)
  else
    (X_exists ob i2 i3).bind fun r4 =>
    if r4 = (0 : Int32) then
      some ((-1 : Int32), ob)
    else
      chk (8 : Int32) i1 <|
      if (gA ob 1 i1) = (0 : Int32) then
        (X_copyIndex ob i2 i3 i1).bind fun r9 =>
        chk (512 : Int32) r9 <|
        if (gA ob 5 r9) = (0 : Int32) then
          some ((-4 : Int32), ob)
        else
          chk (512 : Int32) r9 <|
          chk (512 : Int32) r9 <|
          (X_stateIndex (sA ob 5 r9 ((gA ob 5 r9) - (1 : Int32))) i1 i2 i3).bind fun r15 =>
          chk (512 : Int32) r15 <|
          if (gA ob 3 r15) = (0 : Int32) then
            chk (512 : Int32) r15 <|
            bind2 (X_cascade NF (sA (sA ob 5 r9 ((gA ob 5 r9) - (1 : Int32))) 3 r15 (1 : Int32)) i1) fun r20 q21 =>
            some (r20, q21)
          else
            some ((-5 : Int32), (sA ob 5 r9 ((gA ob 5 r9) - (1 : Int32))))
      else
        some ((-2 : Int32), ob)
set_option maxRecDepth 65536 in
set_option maxHeartbeats 4000000 in
theorem X_receive_p {C : Ctx} {top : Nat} {a : Nat} {H : List (Nat × Nat × Rec)} {res : Int32 × Rec} {NF : Nat} (ob : Rec) (i1 : Int32) (i2 : Int32) (i3 : Int32) (hf : X_receive NF ob i1 i2 i3 = some res) : Runs C B22 0 0 0 [vr a, vi i1, vi i2, vi i3, vn, vn] [] (top, (a, 9, ob) :: H) (Ans (some (.int res.1)) (top, (a, 9, res.2) :: H)) := by
  delta X_receive at hf
  refine Runs.aloadN d22_0 rfl <| Runs.iloadN d22_1 rfl <| ?_
  refine bind_el hf fun r1 hg2 hf => ?_
  refine Runs.callP (N := B5) (W := 0) (as := [.int i1]) (S' := []) d22_2 w45 w46 w47 rfl cw5 ar5 rk22_5_0 (by decide) rfl rfl (X_validProc_pay hg2) <| ans1 <| ?_
  refine ite_el hf (fun hc3 hf => ?_) (fun hc3 hf => ?_)
  · refine Runs.ifY (pc' := 17) d22_5 (teq hc3).1 (by decide) <| ?_
    obtain rfl := Option.some.inj hf
    exact Runs.iconst d22_17 ci_m1 <| Runs.retI d22_18 rfl ⟨by decide, by decide⟩ ⟨rfl, rfl⟩
  · refine Runs.ifN d22_5 (feq hc3).1 <| ?_
    refine Runs.aloadN d22_8 rfl <| Runs.iloadN d22_9 rfl <| Runs.iloadN d22_10 rfl <| ?_
    refine bind_el hf fun r4 hg5 hf => ?_
    refine Runs.callP (N := B16) (W := 0) (as := [.int i2, .int i3]) (S' := []) d22_11 w93 w94 w95 rfl cw16 ar16 rk22_16_0 (by decide) rfl rfl (X_exists_pay hg5) <| ans1 <| ?_
    refine ite_el hf (fun hc6 hf => ?_) (fun hc6 hf => ?_)
    · refine Runs.ifN d22_14 (teq hc6).2 <| ?_
      obtain rfl := Option.some.inj hf
      exact Runs.iconst d22_17 ci_m1 <| Runs.retI d22_18 rfl ⟨by decide, by decide⟩ ⟨rfl, rfl⟩
    · refine Runs.ifY (pc' := 19) d22_14 (feq hc6).2 (by decide) <| ?_
      refine Runs.aloadN d22_19 rfl <| Runs.getA d22_20 fA_1 w17 (by decide) <| Runs.iloadN d22_23 rfl <| ?_
      refine chk_el hf fun hi7 hf => ?_
      refine Runs.baloadA d22_24 fA_1 (by decide) hi7 <| ?_
      refine ite_el hf (fun hc8 hf => ?_) (fun hc8 hf => ?_)
      · refine Runs.ifY (pc' := 31) d22_25 (teq hc8).1 (by decide) <| ?_
        refine Runs.aloadN d22_31 rfl <| Runs.iloadN d22_32 rfl <| Runs.iloadN d22_33 rfl <| Runs.iloadN d22_34 rfl <| ?_
        refine bind_el hf fun r9 hg10 hf => ?_
        refine Runs.callP (N := B21) (W := 0) (as := [.int i2, .int i3, .int i1]) (S' := []) d22_35 w115 w116 w117 rfl cw21 ar21 rk22_21_0 (by decide) rfl rfl (X_copyIndex_pay hg10) <| ans1 <| Runs.istore (P' := [vr a, vi i1, vi i2, vi i3, vi r9, vn]) d22_38 (by decide) rfl <| Runs.aloadN d22_40 rfl <| Runs.getA d22_41 fA_5 w25 (by decide) <| Runs.iload d22_44 rfl <| ?_
        refine chk_el hf fun hi11 hf => ?_
        refine Runs.ialoadA d22_46 fA_5 (by decide) hi11 <| ?_
        refine ite_el hf (fun hc12 hf => ?_) (fun hc12 hf => ?_)
        · refine Runs.ifN d22_47 (teq hc12).2 <| ?_
          obtain rfl := Option.some.inj hf
          exact Runs.bipush d22_50 cb_m4 <| Runs.retI d22_52 rfl ⟨by decide, by decide⟩ ⟨rfl, rfl⟩
        · refine Runs.ifY (pc' := 53) d22_47 (feq hc12).2 (by decide) <| ?_
          refine Runs.aloadN d22_53 rfl <| Runs.getA d22_54 fA_5 w25 (by decide) <| Runs.iload d22_57 rfl <| Runs.aloadN d22_59 rfl <| Runs.getA d22_60 fA_5 w25 (by decide) <| Runs.iload d22_63 rfl <| ?_
          refine chk_el hf fun hi13 hf => ?_
          refine Runs.ialoadA d22_65 fA_5 (by decide) hi13 <| Runs.iconst d22_66 ci_1 <| Runs.isub d22_67 <| ?_
          refine chk_el hf fun hi14 hf => ?_
          refine Runs.iastoreA d22_68 fA_5 (by decide) hi14 <| Runs.aloadN d22_69 rfl <| Runs.iloadN d22_70 rfl <| Runs.iloadN d22_71 rfl <| Runs.iloadN d22_72 rfl <| ?_
          refine bind_el hf fun r15 hg16 hf => ?_
          refine Runs.callP (N := B12) (W := 0) (as := [.int i1, .int i2, .int i3]) (S' := []) d22_73 w76 w77 w78 rfl cw12 ar12 rk22_12_0 (by decide) rfl rfl (X_stateIndex_pay hg16) <| ans1 <| Runs.istore (P' := [vr a, vi i1, vi i2, vi i3, vi r9, vi r15]) d22_76 (by decide) rfl <| Runs.aloadN d22_78 rfl <| Runs.getA d22_79 fA_3 w21 (by decide) <| Runs.iload d22_82 rfl <| ?_
          refine chk_el hf fun hi17 hf => ?_
          refine Runs.ialoadA d22_84 fA_3 (by decide) hi17 <| ?_
          refine ite_el hf (fun hc18 hf => ?_) (fun hc18 hf => ?_)
          · refine Runs.ifY (pc' := 91) d22_85 (teq hc18).1 (by decide) <| ?_
            refine Runs.aloadN d22_91 rfl <| Runs.getA d22_92 fA_3 w21 (by decide) <| Runs.iload d22_95 rfl <| Runs.iconst d22_97 ci_1 <| ?_
            refine chk_el hf fun hi19 hf => ?_
            refine Runs.iastoreA d22_98 fA_3 (by decide) hi19 <| Runs.aloadN d22_99 rfl <| Runs.iloadN d22_100 rfl <| ?_
            refine bind2_el hf fun r20 q21 hg22 hf => ?_
            obtain rfl := Option.some.inj hf
            exact Runs.callP (N := B23) (W := 0) (as := [.int i1]) (S' := []) d22_101 w124 w125 w126 rfl cw23 ar23 rk22_23_0 (by decide) rfl rfl (X_cascade_pay hg22) <| ans1 <| Runs.retI d22_104 rfl ⟨by decide, by decide⟩ ⟨rfl, rfl⟩
          · refine Runs.ifN d22_85 (feq hc18).1 <| ?_
            obtain rfl := Option.some.inj hf
            exact Runs.bipush d22_88 cb_m5 <| Runs.retI d22_90 rfl ⟨by decide, by decide⟩ ⟨rfl, rfl⟩
      · refine Runs.ifN d22_25 (feq hc8).1 <| ?_
        obtain rfl := Option.some.inj hf
        exact Runs.bipush d22_28 cb_m2 <| Runs.retI d22_30 rfl ⟨by decide, by decide⟩ ⟨rfl, rfl⟩
theorem X_receive_pay {C : Ctx} {top : Nat} {a : Nat} {H : List (Nat × Nat × Rec)} {res : Int32 × Rec} {NF : Nat} {ob : Rec} {i1 : Int32} {i2 : Int32} {i3 : Int32} (hf : X_receive NF ob i1 i2 i3 = some res) : Pays C B22 [.ref a, .int i1, .int i2, .int i3] (top, (a, 9, ob) :: H) (Ans (some (.int res.1)) (top, (a, 9, res.2) :: H)) :=
  Pays.of pnK (Nat.le_of_ble_eq_true rfl) (P := [vr a, vi i1, vi i2, vi i3, vn, vn]) 2 rfl (X_receive_p ob i1 i2 i3 hf)
def X_duplicate (ob : Rec) (i1 : Int32) (i2 : Int32) (i3 : Int32) : Option (Int32 × Rec) :=
  (X_exists ob i1 i2).bind fun r1 =>
  if r1 = (0 : Int32) then
    some ((-1 : Int32), ob)
  else
    (X_validProc ob i3).bind fun r4 =>
    if r4 = (0 : Int32) then
      some ((-1 : Int32), ob)
    else
      (X_copyIndex ob i1 i2 i3).bind fun r7 =>
      chk (512 : Int32) r7 <|
      if (gA ob 5 r7) = (0 : Int32) then
        some ((-4 : Int32), ob)
      else
        chk (512 : Int32) r7 <|
        if (gA ob 5 r7) < (3 : Int32) then
          chk (512 : Int32) r7 <|
          chk (512 : Int32) r7 <|
          chk (512 : Int32) r7 <|
          some ((gA (sA ob 5 r7 ((gA ob 5 r7) + (1 : Int32))) 5 r7), (sA ob 5 r7 ((gA ob 5 r7) + (1 : Int32))))
        else
          some ((-3 : Int32), ob)
set_option maxRecDepth 65536 in
set_option maxHeartbeats 4000000 in
theorem X_duplicate_p {C : Ctx} {top : Nat} {a : Nat} {H : List (Nat × Nat × Rec)} {res : Int32 × Rec} (ob : Rec) (i1 : Int32) (i2 : Int32) (i3 : Int32) (hf : X_duplicate ob i1 i2 i3 = some res) : Runs C B27 0 0 0 [vr a, vi i1, vi i2, vi i3, vn] [] (top, (a, 9, ob) :: H) (Ans (some (.int res.1)) (top, (a, 9, res.2) :: H)) := by
  delta X_duplicate at hf
  refine Runs.aloadN d27_0 rfl <| Runs.iloadN d27_1 rfl <| Runs.iloadN d27_2 rfl <| ?_
  refine bind_el hf fun r1 hg2 hf => ?_
  refine Runs.callP (N := B16) (W := 0) (as := [.int i1, .int i2]) (S' := []) d27_3 w93 w94 w95 rfl cw16 ar16 rk27_16_0 (by decide) rfl rfl (X_exists_pay hg2) <| ans1 <| ?_
  refine ite_el hf (fun hc3 hf => ?_) (fun hc3 hf => ?_)
  · refine Runs.ifY (pc' := 17) d27_6 (teq hc3).1 (by decide) <| ?_
    obtain rfl := Option.some.inj hf
    exact Runs.iconst d27_17 ci_m1 <| Runs.retI d27_18 rfl ⟨by decide, by decide⟩ ⟨rfl, rfl⟩
  · refine Runs.ifN d27_6 (feq hc3).1 <| ?_
    refine Runs.aloadN d27_9 rfl <| Runs.iloadN d27_10 rfl <| ?_
    refine bind_el hf fun r4 hg5 hf => ?_
    refine Runs.callP (N := B5) (W := 0) (as := [.int i3]) (S' := []) d27_11 w45 w46 w47 rfl cw5 ar5 rk27_5_0 (by decide) rfl rfl (X_validProc_pay hg5) <| ans1 <| ?_
    refine ite_el hf (fun hc6 hf => ?_) (fun hc6 hf => ?_)
    · refine Runs.ifN d27_14 (teq hc6).2 <| ?_
      obtain rfl := Option.some.inj hf
      exact Runs.iconst d27_17 ci_m1 <| Runs.retI d27_18 rfl ⟨by decide, by decide⟩ ⟨rfl, rfl⟩
    · refine Runs.ifY (pc' := 19) d27_14 (feq hc6).2 (by decide) <| ?_
      refine Runs.aloadN d27_19 rfl <| Runs.iloadN d27_20 rfl <| Runs.iloadN d27_21 rfl <| Runs.iloadN d27_22 rfl <| ?_
      refine bind_el hf fun r7 hg8 hf => ?_
      refine Runs.callP (N := B21) (W := 0) (as := [.int i1, .int i2, .int i3]) (S' := []) d27_23 w115 w116 w117 rfl cw21 ar21 rk27_21_0 (by decide) rfl rfl (X_copyIndex_pay hg8) <| ans1 <| Runs.istore (P' := [vr a, vi i1, vi i2, vi i3, vi r7]) d27_26 (by decide) rfl <| Runs.aloadN d27_28 rfl <| Runs.getA d27_29 fA_5 w25 (by decide) <| Runs.iload d27_32 rfl <| ?_
      refine chk_el hf fun hi9 hf => ?_
      refine Runs.ialoadA d27_34 fA_5 (by decide) hi9 <| ?_
      refine ite_el hf (fun hc10 hf => ?_) (fun hc10 hf => ?_)
      · refine Runs.ifN d27_35 (teq hc10).2 <| ?_
        obtain rfl := Option.some.inj hf
        exact Runs.bipush d27_38 cb_m4 <| Runs.retI d27_40 rfl ⟨by decide, by decide⟩ ⟨rfl, rfl⟩
      · refine Runs.ifY (pc' := 41) d27_35 (feq hc10).2 (by decide) <| ?_
        refine Runs.aloadN d27_41 rfl <| Runs.getA d27_42 fA_5 w25 (by decide) <| Runs.iload d27_45 rfl <| ?_
        refine chk_el hf fun hi11 hf => ?_
        refine Runs.ialoadA d27_47 fA_5 (by decide) hi11 <| Runs.iconst d27_48 ci_3 <| ?_
        refine ite_el hf (fun hc12 hf => ?_) (fun hc12 hf => ?_)
        · refine Runs.icY (pc' := 55) d27_49 (tlt hc12).1 (by decide) <| ?_
          refine Runs.aloadN d27_55 rfl <| Runs.getA d27_56 fA_5 w25 (by decide) <| Runs.iload d27_59 rfl <| Runs.aloadN d27_61 rfl <| Runs.getA d27_62 fA_5 w25 (by decide) <| Runs.iload d27_65 rfl <| ?_
          refine chk_el hf fun hi13 hf => ?_
          refine Runs.ialoadA d27_67 fA_5 (by decide) hi13 <| Runs.iconst d27_68 ci_1 <| Runs.iadd d27_69 <| ?_
          refine chk_el hf fun hi14 hf => ?_
          refine Runs.iastoreA d27_70 fA_5 (by decide) hi14 <| Runs.aloadN d27_71 rfl <| Runs.getA d27_72 fA_5 w25 (by decide) <| Runs.iload d27_75 rfl <| ?_
          refine chk_el hf fun hi15 hf => ?_
          obtain rfl := Option.some.inj hf
          exact Runs.ialoadA d27_77 fA_5 (by decide) hi15 <| Runs.retI d27_78 rfl ⟨by decide, by decide⟩ ⟨rfl, rfl⟩
        · refine Runs.icN d27_49 (flt hc12).1 <| ?_
          obtain rfl := Option.some.inj hf
          exact Runs.bipush d27_52 cb_m3 <| Runs.retI d27_54 rfl ⟨by decide, by decide⟩ ⟨rfl, rfl⟩
theorem X_duplicate_pay {C : Ctx} {top : Nat} {a : Nat} {H : List (Nat × Nat × Rec)} {res : Int32 × Rec} {ob : Rec} {i1 : Int32} {i2 : Int32} {i3 : Int32} (hf : X_duplicate ob i1 i2 i3 = some res) : Pays C B27 [.ref a, .int i1, .int i2, .int i3] (top, (a, 9, ob) :: H) (Ans (some (.int res.1)) (top, (a, 9, res.2) :: H)) :=
  Pays.of pnK (Nat.le_of_ble_eq_true rfl) (P := [vr a, vi i1, vi i2, vi i3, vn]) 1 rfl (X_duplicate_p ob i1 i2 i3 hf)
def X_drop (ob : Rec) (i1 : Int32) (i2 : Int32) (i3 : Int32) : Option (Int32 × Rec) :=
  (X_exists ob i1 i2).bind fun r1 =>
  if r1 = (0 : Int32) then
    some ((-1 : Int32), ob)
  else
    (X_validProc ob i3).bind fun r4 =>
    if r4 = (0 : Int32) then
      some ((-1 : Int32), ob)
    else
      (X_copyIndex ob i1 i2 i3).bind fun r7 =>
      chk (512 : Int32) r7 <|
      if (gA ob 5 r7) = (0 : Int32) then
        some ((-4 : Int32), ob)
      else
        chk (512 : Int32) r7 <|
        chk (512 : Int32) r7 <|
        chk (512 : Int32) r7 <|
        some ((gA (sA ob 5 r7 ((gA ob 5 r7) - (1 : Int32))) 5 r7), (sA ob 5 r7 ((gA ob 5 r7) - (1 : Int32))))
set_option maxRecDepth 65536 in
set_option maxHeartbeats 4000000 in
theorem X_drop_p {C : Ctx} {top : Nat} {a : Nat} {H : List (Nat × Nat × Rec)} {res : Int32 × Rec} (ob : Rec) (i1 : Int32) (i2 : Int32) (i3 : Int32) (hf : X_drop ob i1 i2 i3 = some res) : Runs C B25 0 0 0 [vr a, vi i1, vi i2, vi i3, vn] [] (top, (a, 9, ob) :: H) (Ans (some (.int res.1)) (top, (a, 9, res.2) :: H)) := by
  delta X_drop at hf
  refine Runs.aloadN d25_0 rfl <| Runs.iloadN d25_1 rfl <| Runs.iloadN d25_2 rfl <| ?_
  refine bind_el hf fun r1 hg2 hf => ?_
  refine Runs.callP (N := B16) (W := 0) (as := [.int i1, .int i2]) (S' := []) d25_3 w93 w94 w95 rfl cw16 ar16 rk25_16_0 (by decide) rfl rfl (X_exists_pay hg2) <| ans1 <| ?_
  refine ite_el hf (fun hc3 hf => ?_) (fun hc3 hf => ?_)
  · refine Runs.ifY (pc' := 17) d25_6 (teq hc3).1 (by decide) <| ?_
    obtain rfl := Option.some.inj hf
    exact Runs.iconst d25_17 ci_m1 <| Runs.retI d25_18 rfl ⟨by decide, by decide⟩ ⟨rfl, rfl⟩
  · refine Runs.ifN d25_6 (feq hc3).1 <| ?_
    refine Runs.aloadN d25_9 rfl <| Runs.iloadN d25_10 rfl <| ?_
    refine bind_el hf fun r4 hg5 hf => ?_
    refine Runs.callP (N := B5) (W := 0) (as := [.int i3]) (S' := []) d25_11 w45 w46 w47 rfl cw5 ar5 rk25_5_0 (by decide) rfl rfl (X_validProc_pay hg5) <| ans1 <| ?_
    refine ite_el hf (fun hc6 hf => ?_) (fun hc6 hf => ?_)
    · refine Runs.ifN d25_14 (teq hc6).2 <| ?_
      obtain rfl := Option.some.inj hf
      exact Runs.iconst d25_17 ci_m1 <| Runs.retI d25_18 rfl ⟨by decide, by decide⟩ ⟨rfl, rfl⟩
    · refine Runs.ifY (pc' := 19) d25_14 (feq hc6).2 (by decide) <| ?_
      refine Runs.aloadN d25_19 rfl <| Runs.iloadN d25_20 rfl <| Runs.iloadN d25_21 rfl <| Runs.iloadN d25_22 rfl <| ?_
      refine bind_el hf fun r7 hg8 hf => ?_
      refine Runs.callP (N := B21) (W := 0) (as := [.int i1, .int i2, .int i3]) (S' := []) d25_23 w115 w116 w117 rfl cw21 ar21 rk25_21_0 (by decide) rfl rfl (X_copyIndex_pay hg8) <| ans1 <| Runs.istore (P' := [vr a, vi i1, vi i2, vi i3, vi r7]) d25_26 (by decide) rfl <| Runs.aloadN d25_28 rfl <| Runs.getA d25_29 fA_5 w25 (by decide) <| Runs.iload d25_32 rfl <| ?_
      refine chk_el hf fun hi9 hf => ?_
      refine Runs.ialoadA d25_34 fA_5 (by decide) hi9 <| ?_
      refine ite_el hf (fun hc10 hf => ?_) (fun hc10 hf => ?_)
      · refine Runs.ifN d25_35 (teq hc10).2 <| ?_
        obtain rfl := Option.some.inj hf
        exact Runs.bipush d25_38 cb_m4 <| Runs.retI d25_40 rfl ⟨by decide, by decide⟩ ⟨rfl, rfl⟩
      · refine Runs.ifY (pc' := 41) d25_35 (feq hc10).2 (by decide) <| ?_
        refine Runs.aloadN d25_41 rfl <| Runs.getA d25_42 fA_5 w25 (by decide) <| Runs.iload d25_45 rfl <| Runs.aloadN d25_47 rfl <| Runs.getA d25_48 fA_5 w25 (by decide) <| Runs.iload d25_51 rfl <| ?_
        refine chk_el hf fun hi11 hf => ?_
        refine Runs.ialoadA d25_53 fA_5 (by decide) hi11 <| Runs.iconst d25_54 ci_1 <| Runs.isub d25_55 <| ?_
        refine chk_el hf fun hi12 hf => ?_
        refine Runs.iastoreA d25_56 fA_5 (by decide) hi12 <| Runs.aloadN d25_57 rfl <| Runs.getA d25_58 fA_5 w25 (by decide) <| Runs.iload d25_61 rfl <| ?_
        refine chk_el hf fun hi13 hf => ?_
        obtain rfl := Option.some.inj hf
        exact Runs.ialoadA d25_63 fA_5 (by decide) hi13 <| Runs.retI d25_64 rfl ⟨by decide, by decide⟩ ⟨rfl, rfl⟩
theorem X_drop_pay {C : Ctx} {top : Nat} {a : Nat} {H : List (Nat × Nat × Rec)} {res : Int32 × Rec} {ob : Rec} {i1 : Int32} {i2 : Int32} {i3 : Int32} (hf : X_drop ob i1 i2 i3 = some res) : Pays C B25 [.ref a, .int i1, .int i2, .int i3] (top, (a, 9, ob) :: H) (Ans (some (.int res.1)) (top, (a, 9, res.2) :: H)) :=
  Pays.of pnK (Nat.le_of_ble_eq_true rfl) (P := [vr a, vi i1, vi i2, vi i3, vn]) 1 rfl (X_drop_p ob i1 i2 i3 hf)
def X_retransmit (ob : Rec) (i1 : Int32) (i2 : Int32) (i3 : Int32) (i4 : Int32) : Option (Int32 × Rec) :=
  (X_validProc ob i1).bind fun r1 =>
  if r1 = (0 : Int32) then
    some ((-1 : Int32), ob)
  else
    (X_validProc ob i2).bind fun r4 =>
    if r4 = (0 : Int32) then
      some ((-1 : Int32), ob)
    else
      if i1 = i2 then
        some ((-1 : Int32), ob)
      else
        (X_exists ob i3 i4).bind fun r8 =>
        if r8 = (0 : Int32) then
          some ((-1 : Int32), ob)
        else
          chk (8 : Int32) i1 <|
          if (gA ob 1 i1) = (0 : Int32) then
            chk (8 : Int32) i2 <|
            if (gA ob 1 i2) = (0 : Int32) then
              (X_stateIndex ob i1 i3 i4).bind fun r15 =>
              chk (512 : Int32) r15 <|
              if (gA ob 3 r15) = (2 : Int32) then
                (X_copyIndex ob i3 i4 i2).bind fun r19 =>
                chk (512 : Int32) r19 <|
                if (gA ob 5 r19) < (3 : Int32) then
                  chk (512 : Int32) r19 <|
                  chk (512 : Int32) r19 <|
                  some ((0 : Int32), (sA ob 5 r19 ((gA ob 5 r19) + (1 : Int32))))
                else
                  some ((-3 : Int32), ob)
              else
                some ((-6 : Int32), ob)
            else
              some ((-2 : Int32), ob)
          else
            some ((-2 : Int32), ob)
set_option maxRecDepth 65536 in
set_option maxHeartbeats 4000000 in
theorem X_retransmit_p {C : Ctx} {top : Nat} {a : Nat} {H : List (Nat × Nat × Rec)} {res : Int32 × Rec} (ob : Rec) (i1 : Int32) (i2 : Int32) (i3 : Int32) (i4 : Int32) (hf : X_retransmit ob i1 i2 i3 i4 = some res) : Runs C B28 0 0 0 [vr a, vi i1, vi i2, vi i3, vi i4, vn, vn] [] (top, (a, 9, ob) :: H) (Ans (some (.int res.1)) (top, (a, 9, res.2) :: H)) := by
  delta X_retransmit at hf
  refine Runs.aloadN d28_0 rfl <| Runs.iloadN d28_1 rfl <| ?_
  refine bind_el hf fun r1 hg2 hf => ?_
  refine Runs.callP (N := B5) (W := 0) (as := [.int i1]) (S' := []) d28_2 w45 w46 w47 rfl cw5 ar5 rk28_5_0 (by decide) rfl rfl (X_validProc_pay hg2) <| ans1 <| ?_
  refine ite_el hf (fun hc3 hf => ?_) (fun hc3 hf => ?_)
  · refine Runs.ifY (pc' := 31) d28_5 (teq hc3).1 (by decide) <| ?_
    obtain rfl := Option.some.inj hf
    exact Runs.iconst d28_31 ci_m1 <| Runs.retI d28_32 rfl ⟨by decide, by decide⟩ ⟨rfl, rfl⟩
  · refine Runs.ifN d28_5 (feq hc3).1 <| ?_
    refine Runs.aloadN d28_8 rfl <| Runs.iloadN d28_9 rfl <| ?_
    refine bind_el hf fun r4 hg5 hf => ?_
    refine Runs.callP (N := B5) (W := 0) (as := [.int i2]) (S' := []) d28_10 w45 w46 w47 rfl cw5 ar5 rk28_5_0 (by decide) rfl rfl (X_validProc_pay hg5) <| ans1 <| ?_
    refine ite_el hf (fun hc6 hf => ?_) (fun hc6 hf => ?_)
    · refine Runs.ifY (pc' := 31) d28_13 (teq hc6).1 (by decide) <| ?_
      obtain rfl := Option.some.inj hf
      exact Runs.iconst d28_31 ci_m1 <| Runs.retI d28_32 rfl ⟨by decide, by decide⟩ ⟨rfl, rfl⟩
    · refine Runs.ifN d28_13 (feq hc6).1 <| ?_
      refine Runs.iloadN d28_16 rfl <| Runs.iloadN d28_17 rfl <| ?_
      refine ite_el hf (fun hc7 hf => ?_) (fun hc7 hf => ?_)
      · refine Runs.icY (pc' := 31) d28_18 (teq hc7).1 (by decide) <| ?_
        obtain rfl := Option.some.inj hf
        exact Runs.iconst d28_31 ci_m1 <| Runs.retI d28_32 rfl ⟨by decide, by decide⟩ ⟨rfl, rfl⟩
      · refine Runs.icN d28_18 (feq hc7).1 <| ?_
        refine Runs.aloadN d28_21 rfl <| Runs.iloadN d28_22 rfl <| Runs.iload d28_23 rfl <| ?_
        refine bind_el hf fun r8 hg9 hf => ?_
        refine Runs.callP (N := B16) (W := 0) (as := [.int i3, .int i4]) (S' := []) d28_25 w93 w94 w95 rfl cw16 ar16 rk28_16_0 (by decide) rfl rfl (X_exists_pay hg9) <| ans1 <| ?_
        refine ite_el hf (fun hc10 hf => ?_) (fun hc10 hf => ?_)
        · refine Runs.ifN d28_28 (teq hc10).2 <| ?_
          obtain rfl := Option.some.inj hf
          exact Runs.iconst d28_31 ci_m1 <| Runs.retI d28_32 rfl ⟨by decide, by decide⟩ ⟨rfl, rfl⟩
        · refine Runs.ifY (pc' := 33) d28_28 (feq hc10).2 (by decide) <| ?_
          refine Runs.aloadN d28_33 rfl <| Runs.getA d28_34 fA_1 w17 (by decide) <| Runs.iloadN d28_37 rfl <| ?_
          refine chk_el hf fun hi11 hf => ?_
          refine Runs.baloadA d28_38 fA_1 (by decide) hi11 <| ?_
          refine ite_el hf (fun hc12 hf => ?_) (fun hc12 hf => ?_)
          · refine Runs.ifN d28_39 (teq hc12).2 <| ?_
            refine Runs.aloadN d28_42 rfl <| Runs.getA d28_43 fA_1 w17 (by decide) <| Runs.iloadN d28_46 rfl <| ?_
            refine chk_el hf fun hi13 hf => ?_
            refine Runs.baloadA d28_47 fA_1 (by decide) hi13 <| ?_
            refine ite_el hf (fun hc14 hf => ?_) (fun hc14 hf => ?_)
            · refine Runs.ifY (pc' := 54) d28_48 (teq hc14).1 (by decide) <| ?_
              refine Runs.aloadN d28_54 rfl <| Runs.iloadN d28_55 rfl <| Runs.iloadN d28_56 rfl <| Runs.iload d28_57 rfl <| ?_
              refine bind_el hf fun r15 hg16 hf => ?_
              refine Runs.callP (N := B12) (W := 0) (as := [.int i1, .int i3, .int i4]) (S' := []) d28_59 w76 w77 w78 rfl cw12 ar12 rk28_12_0 (by decide) rfl rfl (X_stateIndex_pay hg16) <| ans1 <| Runs.istore (P' := [vr a, vi i1, vi i2, vi i3, vi i4, vi r15, vn]) d28_62 (by decide) rfl <| Runs.aloadN d28_64 rfl <| Runs.getA d28_65 fA_3 w21 (by decide) <| Runs.iload d28_68 rfl <| ?_
              refine chk_el hf fun hi17 hf => ?_
              refine Runs.ialoadA d28_70 fA_3 (by decide) hi17 <| Runs.iconst d28_71 ci_2 <| ?_
              refine ite_el hf (fun hc18 hf => ?_) (fun hc18 hf => ?_)
              · refine Runs.icY (pc' := 78) d28_72 (teq hc18).1 (by decide) <| ?_
                refine Runs.aloadN d28_78 rfl <| Runs.iloadN d28_79 rfl <| Runs.iload d28_80 rfl <| Runs.iloadN d28_82 rfl <| ?_
                refine bind_el hf fun r19 hg20 hf => ?_
                refine Runs.callP (N := B21) (W := 0) (as := [.int i3, .int i4, .int i2]) (S' := []) d28_83 w115 w116 w117 rfl cw21 ar21 rk28_21_0 (by decide) rfl rfl (X_copyIndex_pay hg20) <| ans1 <| Runs.istore (P' := [vr a, vi i1, vi i2, vi i3, vi i4, vi r15, vi r19]) d28_86 (by decide) rfl <| Runs.aloadN d28_88 rfl <| Runs.getA d28_89 fA_5 w25 (by decide) <| Runs.iload d28_92 rfl <| ?_
                refine chk_el hf fun hi21 hf => ?_
                refine Runs.ialoadA d28_94 fA_5 (by decide) hi21 <| Runs.iconst d28_95 ci_3 <| ?_
                refine ite_el hf (fun hc22 hf => ?_) (fun hc22 hf => ?_)
                · refine Runs.icY (pc' := 102) d28_96 (tlt hc22).1 (by decide) <| ?_
                  refine Runs.aloadN d28_102 rfl <| Runs.getA d28_103 fA_5 w25 (by decide) <| Runs.iload d28_106 rfl <| Runs.aloadN d28_108 rfl <| Runs.getA d28_109 fA_5 w25 (by decide) <| Runs.iload d28_112 rfl <| ?_
                  refine chk_el hf fun hi23 hf => ?_
                  refine Runs.ialoadA d28_114 fA_5 (by decide) hi23 <| Runs.iconst d28_115 ci_1 <| Runs.iadd d28_116 <| ?_
                  refine chk_el hf fun hi24 hf => ?_
                  obtain rfl := Option.some.inj hf
                  exact Runs.iastoreA d28_117 fA_5 (by decide) hi24 <| Runs.iconst d28_118 ci_0 <| Runs.retI d28_119 rfl ⟨by decide, by decide⟩ ⟨rfl, rfl⟩
                · refine Runs.icN d28_96 (flt hc22).1 <| ?_
                  obtain rfl := Option.some.inj hf
                  exact Runs.bipush d28_99 cb_m3 <| Runs.retI d28_101 rfl ⟨by decide, by decide⟩ ⟨rfl, rfl⟩
              · refine Runs.icN d28_72 (feq hc18).1 <| ?_
                obtain rfl := Option.some.inj hf
                exact Runs.bipush d28_75 cb_m6 <| Runs.retI d28_77 rfl ⟨by decide, by decide⟩ ⟨rfl, rfl⟩
            · refine Runs.ifN d28_48 (feq hc14).1 <| ?_
              obtain rfl := Option.some.inj hf
              exact Runs.bipush d28_51 cb_m2 <| Runs.retI d28_53 rfl ⟨by decide, by decide⟩ ⟨rfl, rfl⟩
          · refine Runs.ifY (pc' := 51) d28_39 (feq hc12).2 (by decide) <| ?_
            obtain rfl := Option.some.inj hf
            exact Runs.bipush d28_51 cb_m2 <| Runs.retI d28_53 rfl ⟨by decide, by decide⟩ ⟨rfl, rfl⟩
theorem X_retransmit_pay {C : Ctx} {top : Nat} {a : Nat} {H : List (Nat × Nat × Rec)} {res : Int32 × Rec} {ob : Rec} {i1 : Int32} {i2 : Int32} {i3 : Int32} {i4 : Int32} (hf : X_retransmit ob i1 i2 i3 i4 = some res) : Pays C B28 [.ref a, .int i1, .int i2, .int i3, .int i4] (top, (a, 9, ob) :: H) (Ans (some (.int res.1)) (top, (a, 9, res.2) :: H)) :=
  Pays.of pnK (Nat.le_of_ble_eq_true rfl) (P := [vr a, vi i1, vi i2, vi i3, vi i4, vn, vn]) 2 rfl (X_retransmit_p ob i1 i2 i3 i4 hf)
def X_gossip_w57 (NF : Nat) (k46 : Rec → Int32 → Int32 → Int32 → Option (Int32 × Rec)) (k57 : Rec → Int32 → Int32 → Int32 → Int32 → Option (Int32 × Rec)) (ob : Rec) (i1 : Int32) (i2 : Int32) (i3 : Int32) (i4 : Int32) : Option (Int32 × Rec) :=
  if i4 < (gI ob 0) then
    chk (512 : Int32) (((i1 * (64 : Int32)) + (i3 * (8 : Int32))) + i4) <|
    chk (512 : Int32) (((i2 * (64 : Int32)) + (i3 * (8 : Int32))) + i4) <|
    if (gA ob 6 (((i2 * (64 : Int32)) + (i3 * (8 : Int32))) + i4)) < (gA ob 6 (((i1 * (64 : Int32)) + (i3 * (8 : Int32))) + i4)) then
      chk (512 : Int32) (((i1 * (64 : Int32)) + (i3 * (8 : Int32))) + i4) <|
      chk (512 : Int32) (((i2 * (64 : Int32)) + (i3 * (8 : Int32))) + i4) <|
      k57 (sA ob 6 (((i2 * (64 : Int32)) + (i3 * (8 : Int32))) + i4) (gA ob 6 (((i1 * (64 : Int32)) + (i3 * (8 : Int32))) + i4))) i1 i2 i3 (i4 + (1 : Int32))
    else
      k57 ob i1 i2 i3 (i4 + (1 : Int32))
  else
    k46 ob i1 i2 (i3 + (1 : Int32))
def X_gossip_l57 (NF : Nat) (k46 : Rec → Int32 → Int32 → Int32 → Option (Int32 × Rec)) : Nat → Rec → Int32 → Int32 → Int32 → Int32 → Option (Int32 × Rec)
  | 0, _, _, _, _, _ => none
  | n + 1, ob, i1, i2, i3, i4 => X_gossip_w57 NF k46 (X_gossip_l57 NF k46 n) ob i1 i2 i3 i4
set_option maxRecDepth 65536 in
set_option maxHeartbeats 4000000 in
theorem X_gossip_w57_p {C : Ctx} {top : Nat} {a : Nat} {H : List (Nat × Nat × Rec)} {res : Int32 × Rec} {NF : Nat} (k46 : Rec → Int32 → Int32 → Int32 → Option (Int32 × Rec)) (hk46 : ∀ (ob : Rec) (i1 : Int32) (i2 : Int32) (i3 : Int32), k46 ob i1 i2 i3 = some res → Runs C B26 0 0 46 [vr a, vi i1, vi i2, vi i3, vn, vn, vn] [] (top, (a, 9, ob) :: H) (Ans (some (.int res.1)) (top, (a, 9, res.2) :: H))) (k57 : Rec → Int32 → Int32 → Int32 → Int32 → Option (Int32 × Rec)) (hk57 : ∀ (ob : Rec) (i1 : Int32) (i2 : Int32) (i3 : Int32) (i4 : Int32), k57 ob i1 i2 i3 i4 = some res → Runs C B26 0 0 57 [vr a, vi i1, vi i2, vi i3, vi i4, vn, vn] [] (top, (a, 9, ob) :: H) (Ans (some (.int res.1)) (top, (a, 9, res.2) :: H))) (ob : Rec) (i1 : Int32) (i2 : Int32) (i3 : Int32) (i4 : Int32) (hf : X_gossip_w57 NF k46 k57 ob i1 i2 i3 i4 = some res) : Runs C B26 0 0 57 [vr a, vi i1, vi i2, vi i3, vi i4, vn, vn] [] (top, (a, 9, ob) :: H) (Ans (some (.int res.1)) (top, (a, 9, res.2) :: H)) := by
  delta X_gossip_w57 at hf
  refine Runs.iload d26_57 rfl <| Runs.aloadN d26_59 rfl <| Runs.getI d26_60 w33 fS_0 <| ?_
  refine ite_el hf (fun hc2 hf => ?_) (fun hc2 hf => ?_)
  · refine Runs.icN d26_63 (tlt hc2).2.1 <| ?_
    refine Runs.iloadN d26_66 rfl <| Runs.bipush d26_67 cb_64 <| Runs.imul d26_69 <| Runs.iloadN d26_70 rfl <| Runs.bipush d26_71 cb_8 <| Runs.imul d26_73 <| Runs.iadd d26_74 <| Runs.iload d26_75 rfl <| Runs.iadd d26_77 <| Runs.istore (P' := [vr a, vi i1, vi i2, vi i3, vi i4, vi (((i2 * (64 : Int32)) + (i3 * (8 : Int32))) + i4), vn]) d26_78 (by decide) rfl <| Runs.iloadN d26_80 rfl <| Runs.bipush d26_81 cb_64 <| ?_
    refine Runs.imul d26_83 <| Runs.iloadN d26_84 rfl <| Runs.bipush d26_85 cb_8 <| Runs.imul d26_87 <| Runs.iadd d26_88 <| Runs.iload d26_89 rfl <| Runs.iadd d26_91 <| Runs.istore (P' := [vr a, vi i1, vi i2, vi i3, vi i4, vi (((i2 * (64 : Int32)) + (i3 * (8 : Int32))) + i4), vi (((i1 * (64 : Int32)) + (i3 * (8 : Int32))) + i4)]) d26_92 (by decide) rfl <| Runs.aloadN d26_94 rfl <| Runs.getA d26_95 fA_6 w27 (by decide) <| Runs.iload d26_98 rfl <| ?_
    refine chk_el hf fun hi3 hf => ?_
    refine Runs.ialoadA d26_100 fA_6 (by decide) hi3 <| Runs.aloadN d26_101 rfl <| Runs.getA d26_102 fA_6 w27 (by decide) <| Runs.iload d26_105 rfl <| ?_
    refine chk_el hf fun hi4 hf => ?_
    refine Runs.ialoadA d26_107 fA_6 (by decide) hi4 <| ?_
    refine ite_el hf (fun hc5 hf => ?_) (fun hc5 hf => ?_)
    · refine Runs.icN d26_108 (tlt hc5).2.2.2 <| ?_
      refine Runs.aloadN d26_111 rfl <| Runs.getA d26_112 fA_6 w27 (by decide) <| Runs.iload d26_115 rfl <| Runs.aloadN d26_117 rfl <| Runs.getA d26_118 fA_6 w27 (by decide) <| Runs.iload d26_121 rfl <| ?_
      refine chk_el hf fun hi6 hf => ?_
      refine Runs.ialoadA d26_123 fA_6 (by decide) hi6 <| ?_
      refine chk_el hf fun hi7 hf => ?_
      exact Runs.iastoreA d26_124 fA_6 (by decide) hi7 <| Runs.iinc (P' := [vr a, vi i1, vi i2, vi i3, vi (i4 + (1 : Int32)), vi (((i2 * (64 : Int32)) + (i3 * (8 : Int32))) + i4), vi (((i1 * (64 : Int32)) + (i3 * (8 : Int32))) + i4)]) d26_125 ci_1 rfl (by decide) rfl <| Runs.goto (pc' := 57) d26_128 (by decide) <| Runs.forget [true, true, true, true, true, false, false] rfl <| hk57 (sA ob 6 (((i2 * (64 : Int32)) + (i3 * (8 : Int32))) + i4) (gA ob 6 (((i1 * (64 : Int32)) + (i3 * (8 : Int32))) + i4))) i1 i2 i3 (i4 + (1 : Int32)) hf
    · refine Runs.icY (pc' := 125) d26_108 (flt hc5).2.2.2 (by decide) <| ?_
      exact Runs.iinc (P' := [vr a, vi i1, vi i2, vi i3, vi (i4 + (1 : Int32)), vi (((i2 * (64 : Int32)) + (i3 * (8 : Int32))) + i4), vi (((i1 * (64 : Int32)) + (i3 * (8 : Int32))) + i4)]) d26_125 ci_1 rfl (by decide) rfl <| Runs.goto (pc' := 57) d26_128 (by decide) <| Runs.forget [true, true, true, true, true, false, false] rfl <| hk57 ob i1 i2 i3 (i4 + (1 : Int32)) hf
  · refine Runs.icY (pc' := 131) d26_63 (flt hc2).2.1 (by decide) <| ?_
    exact Runs.iinc (P' := [vr a, vi i1, vi i2, vi (i3 + (1 : Int32)), vi i4, vn, vn]) d26_131 ci_1 rfl (by decide) rfl <| Runs.goto (pc' := 46) d26_134 (by decide) <| Runs.forget [true, true, true, true, false, false, false] rfl <| hk46 ob i1 i2 (i3 + (1 : Int32)) hf
theorem X_gossip_l57_p {C : Ctx} {top : Nat} {a : Nat} {H : List (Nat × Nat × Rec)} {res : Int32 × Rec} {NF : Nat} (k46 : Rec → Int32 → Int32 → Int32 → Option (Int32 × Rec)) (hk46 : ∀ (ob : Rec) (i1 : Int32) (i2 : Int32) (i3 : Int32), k46 ob i1 i2 i3 = some res → Runs C B26 0 0 46 [vr a, vi i1, vi i2, vi i3, vn, vn, vn] [] (top, (a, 9, ob) :: H) (Ans (some (.int res.1)) (top, (a, 9, res.2) :: H))) (n : Nat) (ob : Rec) (i1 : Int32) (i2 : Int32) (i3 : Int32) (i4 : Int32) (hf : X_gossip_l57 NF k46 n ob i1 i2 i3 i4 = some res) : Runs C B26 0 0 57 [vr a, vi i1, vi i2, vi i3, vi i4, vn, vn] [] (top, (a, 9, ob) :: H) (Ans (some (.int res.1)) (top, (a, 9, res.2) :: H)) := by
  induction n generalizing ob i1 i2 i3 i4 with
  | zero => cases (show (none : Option (Int32 × Rec)) = some res from hf)
  | succ n ih => exact X_gossip_w57_p k46 hk46 (X_gossip_l57 NF k46 n) (fun ob i1 i2 i3 i4 h => ih _ _ _ _ _ h) ob i1 i2 i3 i4 hf
def X_gossip_w46 (NF : Nat) (k46 : Rec → Int32 → Int32 → Int32 → Option (Int32 × Rec)) (ob : Rec) (i1 : Int32) (i2 : Int32) (i3 : Int32) : Option (Int32 × Rec) :=
  if i3 < (gI ob 0) then
    X_gossip_l57 NF k46 NF ob i1 i2 i3 (0 : Int32)
  else
    some ((0 : Int32), ob)
def X_gossip_l46 (NF : Nat) : Nat → Rec → Int32 → Int32 → Int32 → Option (Int32 × Rec)
  | 0, _, _, _, _ => none
  | n + 1, ob, i1, i2, i3 => X_gossip_w46 NF (X_gossip_l46 NF n) ob i1 i2 i3
set_option maxRecDepth 65536 in
set_option maxHeartbeats 4000000 in
theorem X_gossip_w46_p {C : Ctx} {top : Nat} {a : Nat} {H : List (Nat × Nat × Rec)} {res : Int32 × Rec} {NF : Nat} (k46 : Rec → Int32 → Int32 → Int32 → Option (Int32 × Rec)) (hk46 : ∀ (ob : Rec) (i1 : Int32) (i2 : Int32) (i3 : Int32), k46 ob i1 i2 i3 = some res → Runs C B26 0 0 46 [vr a, vi i1, vi i2, vi i3, vn, vn, vn] [] (top, (a, 9, ob) :: H) (Ans (some (.int res.1)) (top, (a, 9, res.2) :: H))) (ob : Rec) (i1 : Int32) (i2 : Int32) (i3 : Int32) (hf : X_gossip_w46 NF k46 ob i1 i2 i3 = some res) : Runs C B26 0 0 46 [vr a, vi i1, vi i2, vi i3, vn, vn, vn] [] (top, (a, 9, ob) :: H) (Ans (some (.int res.1)) (top, (a, 9, res.2) :: H)) := by
  delta X_gossip_w46 at hf
  refine Runs.iloadN d26_46 rfl <| Runs.aloadN d26_47 rfl <| Runs.getI d26_48 w33 fS_0 <| ?_
  refine ite_el hf (fun hc1 hf => ?_) (fun hc1 hf => ?_)
  · refine Runs.icN d26_51 (tlt hc1).2.1 <| ?_
    exact Runs.iconst d26_54 ci_0 <| Runs.istore (P' := [vr a, vi i1, vi i2, vi i3, vi (0 : Int32), vn, vn]) d26_55 (by decide) rfl <| X_gossip_l57_p k46 hk46 NF ob i1 i2 i3 (0 : Int32) hf
  · refine Runs.icY (pc' := 137) d26_51 (flt hc1).2.1 (by decide) <| ?_
    obtain rfl := Option.some.inj hf
    exact Runs.iconst d26_137 ci_0 <| Runs.retI d26_138 rfl ⟨by decide, by decide⟩ ⟨rfl, rfl⟩
theorem X_gossip_l46_p {C : Ctx} {top : Nat} {a : Nat} {H : List (Nat × Nat × Rec)} {res : Int32 × Rec} {NF : Nat} (n : Nat) (ob : Rec) (i1 : Int32) (i2 : Int32) (i3 : Int32) (hf : X_gossip_l46 NF n ob i1 i2 i3 = some res) : Runs C B26 0 0 46 [vr a, vi i1, vi i2, vi i3, vn, vn, vn] [] (top, (a, 9, ob) :: H) (Ans (some (.int res.1)) (top, (a, 9, res.2) :: H)) := by
  induction n generalizing ob i1 i2 i3 with
  | zero => cases (show (none : Option (Int32 × Rec)) = some res from hf)
  | succ n ih => exact X_gossip_w46_p (X_gossip_l46 NF n) (fun ob i1 i2 i3 h => ih _ _ _ _ h) ob i1 i2 i3 hf
def X_gossip (NF : Nat) (ob : Rec) (i1 : Int32) (i2 : Int32) : Option (Int32 × Rec) :=
  (X_validProc ob i1).bind fun r8 =>
  if r8 = (0 : Int32) then
    some ((-1 : Int32), ob)
  else
    (X_validProc ob i2).bind fun r11 =>
    if r11 = (0 : Int32) then
      some ((-1 : Int32), ob)
    else
      if i1 = i2 then
        some ((-1 : Int32), ob)
      else
        chk (8 : Int32) i1 <|
        if (gA ob 1 i1) = (0 : Int32) then
          chk (8 : Int32) i2 <|
          if (gA ob 1 i2) = (0 : Int32) then
            X_gossip_l46 NF NF ob i1 i2 (0 : Int32)
          else
            some ((-2 : Int32), ob)
        else
          some ((-2 : Int32), ob)
set_option maxRecDepth 65536 in
set_option maxHeartbeats 4000000 in
theorem X_gossip_p {C : Ctx} {top : Nat} {a : Nat} {H : List (Nat × Nat × Rec)} {res : Int32 × Rec} {NF : Nat} (ob : Rec) (i1 : Int32) (i2 : Int32) (hf : X_gossip NF ob i1 i2 = some res) : Runs C B26 0 0 0 [vr a, vi i1, vi i2, vn, vn, vn, vn] [] (top, (a, 9, ob) :: H) (Ans (some (.int res.1)) (top, (a, 9, res.2) :: H)) := by
  delta X_gossip at hf
  refine Runs.aloadN d26_0 rfl <| Runs.iloadN d26_1 rfl <| ?_
  refine bind_el hf fun r8 hg9 hf => ?_
  refine Runs.callP (N := B5) (W := 0) (as := [.int i1]) (S' := []) d26_2 w45 w46 w47 rfl cw5 ar5 rk26_5_0 (by decide) rfl rfl (X_validProc_pay hg9) <| ans1 <| ?_
  refine ite_el hf (fun hc10 hf => ?_) (fun hc10 hf => ?_)
  · refine Runs.ifY (pc' := 21) d26_5 (teq hc10).1 (by decide) <| ?_
    obtain rfl := Option.some.inj hf
    exact Runs.iconst d26_21 ci_m1 <| Runs.retI d26_22 rfl ⟨by decide, by decide⟩ ⟨rfl, rfl⟩
  · refine Runs.ifN d26_5 (feq hc10).1 <| ?_
    refine Runs.aloadN d26_8 rfl <| Runs.iloadN d26_9 rfl <| ?_
    refine bind_el hf fun r11 hg12 hf => ?_
    refine Runs.callP (N := B5) (W := 0) (as := [.int i2]) (S' := []) d26_10 w45 w46 w47 rfl cw5 ar5 rk26_5_0 (by decide) rfl rfl (X_validProc_pay hg12) <| ans1 <| ?_
    refine ite_el hf (fun hc13 hf => ?_) (fun hc13 hf => ?_)
    · refine Runs.ifY (pc' := 21) d26_13 (teq hc13).1 (by decide) <| ?_
      obtain rfl := Option.some.inj hf
      exact Runs.iconst d26_21 ci_m1 <| Runs.retI d26_22 rfl ⟨by decide, by decide⟩ ⟨rfl, rfl⟩
    · refine Runs.ifN d26_13 (feq hc13).1 <| ?_
      refine Runs.iloadN d26_16 rfl <| Runs.iloadN d26_17 rfl <| ?_
      refine ite_el hf (fun hc14 hf => ?_) (fun hc14 hf => ?_)
      · refine Runs.icN d26_18 (teq hc14).2 <| ?_
        obtain rfl := Option.some.inj hf
        exact Runs.iconst d26_21 ci_m1 <| Runs.retI d26_22 rfl ⟨by decide, by decide⟩ ⟨rfl, rfl⟩
      · refine Runs.icY (pc' := 23) d26_18 (feq hc14).2 (by decide) <| ?_
        refine Runs.aloadN d26_23 rfl <| Runs.getA d26_24 fA_1 w17 (by decide) <| Runs.iloadN d26_27 rfl <| ?_
        refine chk_el hf fun hi15 hf => ?_
        refine Runs.baloadA d26_28 fA_1 (by decide) hi15 <| ?_
        refine ite_el hf (fun hc16 hf => ?_) (fun hc16 hf => ?_)
        · refine Runs.ifN d26_29 (teq hc16).2 <| ?_
          refine Runs.aloadN d26_32 rfl <| Runs.getA d26_33 fA_1 w17 (by decide) <| Runs.iloadN d26_36 rfl <| ?_
          refine chk_el hf fun hi17 hf => ?_
          refine Runs.baloadA d26_37 fA_1 (by decide) hi17 <| ?_
          refine ite_el hf (fun hc18 hf => ?_) (fun hc18 hf => ?_)
          · refine Runs.ifY (pc' := 44) d26_38 (teq hc18).1 (by decide) <| ?_
            exact Runs.iconst d26_44 ci_0 <| Runs.istoreN (P' := [vr a, vi i1, vi i2, vi (0 : Int32), vn, vn, vn]) d26_45 (by decide) rfl <| X_gossip_l46_p NF ob i1 i2 (0 : Int32) hf
          · refine Runs.ifN d26_38 (feq hc18).1 <| ?_
            obtain rfl := Option.some.inj hf
            exact Runs.bipush d26_41 cb_m2 <| Runs.retI d26_43 rfl ⟨by decide, by decide⟩ ⟨rfl, rfl⟩
        · refine Runs.ifY (pc' := 41) d26_29 (feq hc16).2 (by decide) <| ?_
          obtain rfl := Option.some.inj hf
          exact Runs.bipush d26_41 cb_m2 <| Runs.retI d26_43 rfl ⟨by decide, by decide⟩ ⟨rfl, rfl⟩
theorem X_gossip_pay {C : Ctx} {top : Nat} {a : Nat} {H : List (Nat × Nat × Rec)} {res : Int32 × Rec} {NF : Nat} {ob : Rec} {i1 : Int32} {i2 : Int32} (hf : X_gossip NF ob i1 i2 = some res) : Pays C B26 [.ref a, .int i1, .int i2] (top, (a, 9, ob) :: H) (Ans (some (.int res.1)) (top, (a, 9, res.2) :: H)) :=
  Pays.of pnK (Nat.le_of_ble_eq_true rfl) (P := [vr a, vi i1, vi i2, vn, vn, vn, vn]) 4 rfl (X_gossip_p ob i1 i2 hf)
def X_isStable_w3 (NF : Nat) (ob : Rec) (k3 : Int32 → Int32 → Int32 → Int32 → Option (Int32)) (i1 : Int32) (i2 : Int32) (i3 : Int32) (i4 : Int32) : Option (Int32) :=
  if i4 < (gI ob 0) then
    chk (8 : Int32) i4 <|
    if (gA ob 1 i4) = (0 : Int32) then
      (X_knownIndex ob i1 i4 i2).bind fun r4 =>
      chk (512 : Int32) r4 <|
      if (gA ob 6 r4) < i3 then
        some (0 : Int32)
      else
        k3 i1 i2 i3 (i4 + (1 : Int32))
    else
      k3 i1 i2 i3 (i4 + (1 : Int32))
  else
    some (1 : Int32)
def X_isStable_l3 (NF : Nat) (ob : Rec) : Nat → Int32 → Int32 → Int32 → Int32 → Option (Int32)
  | 0, _, _, _, _ => none
  | n + 1, i1, i2, i3, i4 => X_isStable_w3 NF ob (X_isStable_l3 NF ob n) i1 i2 i3 i4
set_option maxRecDepth 65536 in
set_option maxHeartbeats 4000000 in
theorem X_isStable_w3_p {C : Ctx} {top : Nat} {a : Nat} {H : List (Nat × Nat × Rec)} {ob : Rec} {res : Int32} {NF : Nat} (k3 : Int32 → Int32 → Int32 → Int32 → Option (Int32)) (hk3 : ∀ (i1 : Int32) (i2 : Int32) (i3 : Int32) (i4 : Int32), k3 i1 i2 i3 i4 = some res → Runs C B30 0 0 3 [vr a, vi i1, vi i2, vi i3, vi i4, vn] [] (top, (a, 9, ob) :: H) (Ans (some (.int res)) (top, (a, 9, ob) :: H))) (i1 : Int32) (i2 : Int32) (i3 : Int32) (i4 : Int32) (hf : X_isStable_w3 NF ob k3 i1 i2 i3 i4 = some res) : Runs C B30 0 0 3 [vr a, vi i1, vi i2, vi i3, vi i4, vn] [] (top, (a, 9, ob) :: H) (Ans (some (.int res)) (top, (a, 9, ob) :: H)) := by
  delta X_isStable_w3 at hf
  refine Runs.iload d30_3 rfl <| Runs.aloadN d30_5 rfl <| Runs.getI d30_6 w33 fS_0 <| ?_
  refine ite_el hf (fun hc1 hf => ?_) (fun hc1 hf => ?_)
  · refine Runs.icN d30_9 (tlt hc1).2.1 <| ?_
    refine Runs.aloadN d30_12 rfl <| Runs.getA d30_13 fA_1 w17 (by decide) <| Runs.iload d30_16 rfl <| ?_
    refine chk_el hf fun hi2 hf => ?_
    refine Runs.baloadA d30_18 fA_1 (by decide) hi2 <| ?_
    refine ite_el hf (fun hc3 hf => ?_) (fun hc3 hf => ?_)
    · refine Runs.ifN d30_19 (teq hc3).2 <| ?_
      refine Runs.aloadN d30_22 rfl <| Runs.iloadN d30_23 rfl <| Runs.iload d30_24 rfl <| Runs.iloadN d30_26 rfl <| ?_
      refine bind_el hf fun r4 hg5 hf => ?_
      refine Runs.callP (N := B8) (W := 0) (as := [.int i1, .int i4, .int i2]) (S' := []) d30_27 w59 w60 w61 rfl cw8 ar8 rk30_8_0 (by decide) rfl rfl (X_knownIndex_pay hg5) <| ans1 <| Runs.istore (P' := [vr a, vi i1, vi i2, vi i3, vi i4, vi r4]) d30_30 (by decide) rfl <| Runs.aloadN d30_32 rfl <| Runs.getA d30_33 fA_6 w27 (by decide) <| Runs.iload d30_36 rfl <| ?_
      refine chk_el hf fun hi6 hf => ?_
      refine Runs.ialoadA d30_38 fA_6 (by decide) hi6 <| Runs.iloadN d30_39 rfl <| ?_
      refine ite_el hf (fun hc7 hf => ?_) (fun hc7 hf => ?_)
      · refine Runs.icN d30_40 (tlt hc7).2.1 <| ?_
        obtain rfl := Option.some.inj hf
        exact Runs.iconst d30_43 ci_0 <| Runs.retZ (y := (0 : Int32)) d30_44 rfl ⟨by decide, by decide⟩ rfl ⟨rfl, rfl⟩
      · refine Runs.icY (pc' := 45) d30_40 (flt hc7).2.1 (by decide) <| ?_
        exact Runs.iinc (P' := [vr a, vi i1, vi i2, vi i3, vi (i4 + (1 : Int32)), vi r4]) d30_45 ci_1 rfl (by decide) rfl <| Runs.goto (pc' := 3) d30_48 (by decide) <| Runs.forget [true, true, true, true, true, false] rfl <| hk3 i1 i2 i3 (i4 + (1 : Int32)) hf
    · refine Runs.ifY (pc' := 45) d30_19 (feq hc3).2 (by decide) <| ?_
      exact Runs.iinc (P' := [vr a, vi i1, vi i2, vi i3, vi (i4 + (1 : Int32)), vn]) d30_45 ci_1 rfl (by decide) rfl <| Runs.goto (pc' := 3) d30_48 (by decide) <| hk3 i1 i2 i3 (i4 + (1 : Int32)) hf
  · refine Runs.icY (pc' := 51) d30_9 (flt hc1).2.1 (by decide) <| ?_
    obtain rfl := Option.some.inj hf
    exact Runs.iconst d30_51 ci_1 <| Runs.retZ (y := (1 : Int32)) d30_52 rfl ⟨by decide, by decide⟩ rfl ⟨rfl, rfl⟩
theorem X_isStable_l3_p {C : Ctx} {top : Nat} {a : Nat} {H : List (Nat × Nat × Rec)} {ob : Rec} {res : Int32} {NF : Nat} (n : Nat) (i1 : Int32) (i2 : Int32) (i3 : Int32) (i4 : Int32) (hf : X_isStable_l3 NF ob n i1 i2 i3 i4 = some res) : Runs C B30 0 0 3 [vr a, vi i1, vi i2, vi i3, vi i4, vn] [] (top, (a, 9, ob) :: H) (Ans (some (.int res)) (top, (a, 9, ob) :: H)) := by
  induction n generalizing i1 i2 i3 i4 with
  | zero => cases (show (none : Option (Int32)) = some res from hf)
  | succ n ih => exact X_isStable_w3_p (X_isStable_l3 NF ob n) (fun i1 i2 i3 i4 h => ih _ _ _ _ h) i1 i2 i3 i4 hf
def X_isStable (NF : Nat) (ob : Rec) (i1 : Int32) (i2 : Int32) (i3 : Int32) : Option (Int32) :=
  X_isStable_l3 NF ob NF i1 i2 i3 (0 : Int32)
set_option maxRecDepth 65536 in
set_option maxHeartbeats 4000000 in
theorem X_isStable_p {C : Ctx} {top : Nat} {a : Nat} {H : List (Nat × Nat × Rec)} {ob : Rec} {res : Int32} {NF : Nat} (i1 : Int32) (i2 : Int32) (i3 : Int32) (hf : X_isStable NF ob i1 i2 i3 = some res) : Runs C B30 0 0 0 [vr a, vi i1, vi i2, vi i3, vn, vn] [] (top, (a, 9, ob) :: H) (Ans (some (.int res)) (top, (a, 9, ob) :: H)) := by
  delta X_isStable at hf
  exact Runs.iconst d30_0 ci_0 <| Runs.istore (P' := [vr a, vi i1, vi i2, vi i3, vi (0 : Int32), vn]) d30_1 (by decide) rfl <| X_isStable_l3_p NF i1 i2 i3 (0 : Int32) hf
theorem X_isStable_pay {C : Ctx} {top : Nat} {a : Nat} {H : List (Nat × Nat × Rec)} {ob : Rec} {res : Int32} {NF : Nat} {i1 : Int32} {i2 : Int32} {i3 : Int32} (hf : X_isStable NF ob i1 i2 i3 = some res) : Pays C B30 [.ref a, .int i1, .int i2, .int i3] (top, (a, 9, ob) :: H) (Ans (some (.int res)) (top, (a, 9, ob) :: H)) :=
  Pays.of pnK (Nat.le_of_ble_eq_true rfl) (P := [vr a, vi i1, vi i2, vi i3, vn, vn]) 2 rfl (X_isStable_p i1 i2 i3 hf)
def X_prune_w45 (NF : Nat) (k26 : Rec → Int32 → Int32 → Int32 → Option (Int32 × Rec)) (k45 : Rec → Int32 → Int32 → Int32 → Int32 → Int32 → Option (Int32 × Rec)) (ob : Rec) (i1 : Int32) (i2 : Int32) (i3 : Int32) (i4 : Int32) (i5 : Int32) : Option (Int32 × Rec) :=
  if i4 < i5 then
    k26 ob i1 i2 (i3 + (1 : Int32))
  else
    if (8 : Int32) < i5 then
      k26 ob i1 i2 (i3 + (1 : Int32))
    else
      (X_stateIndex ob i1 i3 i5).bind fun r5 =>
      chk (512 : Int32) r5 <|
      if (gA ob 3 r5) = (2 : Int32) then
        (X_isStable NF ob i1 i3 i5).bind fun r9 =>
        if r9 = (0 : Int32) then
          k45 ob i1 i2 i3 i4 (i5 + (1 : Int32))
        else
          chk (512 : Int32) r5 <|
          k45 (sA ob 3 r5 (3 : Int32)) i1 (i2 + (1 : Int32)) i3 i4 (i5 + (1 : Int32))
      else
        k45 ob i1 i2 i3 i4 (i5 + (1 : Int32))
def X_prune_l45 (NF : Nat) (k26 : Rec → Int32 → Int32 → Int32 → Option (Int32 × Rec)) : Nat → Rec → Int32 → Int32 → Int32 → Int32 → Int32 → Option (Int32 × Rec)
  | 0, _, _, _, _, _, _ => none
  | n + 1, ob, i1, i2, i3, i4, i5 => X_prune_w45 NF k26 (X_prune_l45 NF k26 n) ob i1 i2 i3 i4 i5
set_option maxRecDepth 65536 in
set_option maxHeartbeats 4000000 in
theorem X_prune_w45_p {C : Ctx} {top : Nat} {a : Nat} {H : List (Nat × Nat × Rec)} {res : Int32 × Rec} {NF : Nat} (k26 : Rec → Int32 → Int32 → Int32 → Option (Int32 × Rec)) (hk26 : ∀ (ob : Rec) (i1 : Int32) (i2 : Int32) (i3 : Int32), k26 ob i1 i2 i3 = some res → Runs C B29 0 0 26 [vr a, vi i1, vi i2, vi i3, vn, vn, vn] [] (top, (a, 9, ob) :: H) (Ans (some (.int res.1)) (top, (a, 9, res.2) :: H))) (k45 : Rec → Int32 → Int32 → Int32 → Int32 → Int32 → Option (Int32 × Rec)) (hk45 : ∀ (ob : Rec) (i1 : Int32) (i2 : Int32) (i3 : Int32) (i4 : Int32) (i5 : Int32), k45 ob i1 i2 i3 i4 i5 = some res → Runs C B29 0 0 45 [vr a, vi i1, vi i2, vi i3, vi i4, vi i5, vn] [] (top, (a, 9, ob) :: H) (Ans (some (.int res.1)) (top, (a, 9, res.2) :: H))) (ob : Rec) (i1 : Int32) (i2 : Int32) (i3 : Int32) (i4 : Int32) (i5 : Int32) (hf : X_prune_w45 NF k26 k45 ob i1 i2 i3 i4 i5 = some res) : Runs C B29 0 0 45 [vr a, vi i1, vi i2, vi i3, vi i4, vi i5, vn] [] (top, (a, 9, ob) :: H) (Ans (some (.int res.1)) (top, (a, 9, res.2) :: H)) := by
  delta X_prune_w45 at hf
  refine Runs.iload d29_45 rfl <| Runs.iload d29_47 rfl <| ?_
  refine ite_el hf (fun hc3 hf => ?_) (fun hc3 hf => ?_)
  · refine Runs.icY (pc' := 108) d29_49 (tlt hc3).2.2.1 (by decide) <| ?_
    exact Runs.iinc (P' := [vr a, vi i1, vi i2, vi (i3 + (1 : Int32)), vi i4, vi i5, vn]) d29_108 ci_1 rfl (by decide) rfl <| Runs.goto (pc' := 26) d29_111 (by decide) <| Runs.forget [true, true, true, true, false, false, false] rfl <| hk26 ob i1 i2 (i3 + (1 : Int32)) hf
  · refine Runs.icN d29_49 (flt hc3).2.2.1 <| ?_
    refine Runs.iload d29_52 rfl <| Runs.bipush d29_54 cb_8 <| ?_
    refine ite_el hf (fun hc4 hf => ?_) (fun hc4 hf => ?_)
    · refine Runs.icY (pc' := 108) d29_56 (tlt hc4).2.2.1 (by decide) <| ?_
      exact Runs.iinc (P' := [vr a, vi i1, vi i2, vi (i3 + (1 : Int32)), vi i4, vi i5, vn]) d29_108 ci_1 rfl (by decide) rfl <| Runs.goto (pc' := 26) d29_111 (by decide) <| Runs.forget [true, true, true, true, false, false, false] rfl <| hk26 ob i1 i2 (i3 + (1 : Int32)) hf
    · refine Runs.icN d29_56 (flt hc4).2.2.1 <| ?_
      refine Runs.aloadN d29_59 rfl <| Runs.iloadN d29_60 rfl <| Runs.iloadN d29_61 rfl <| Runs.iload d29_62 rfl <| ?_
      refine bind_el hf fun r5 hg6 hf => ?_
      refine Runs.callP (N := B12) (W := 0) (as := [.int i1, .int i3, .int i5]) (S' := []) d29_64 w76 w77 w78 rfl cw12 ar12 rk29_12_0 (by decide) rfl rfl (X_stateIndex_pay hg6) <| ans1 <| Runs.istore (P' := [vr a, vi i1, vi i2, vi i3, vi i4, vi i5, vi r5]) d29_67 (by decide) rfl <| Runs.aloadN d29_69 rfl <| Runs.getA d29_70 fA_3 w21 (by decide) <| Runs.iload d29_73 rfl <| ?_
      refine chk_el hf fun hi7 hf => ?_
      refine Runs.ialoadA d29_75 fA_3 (by decide) hi7 <| Runs.iconst d29_76 ci_2 <| ?_
      refine ite_el hf (fun hc8 hf => ?_) (fun hc8 hf => ?_)
      · refine Runs.icN d29_77 (teq hc8).2 <| ?_
        refine Runs.aloadN d29_80 rfl <| Runs.iloadN d29_81 rfl <| Runs.iloadN d29_82 rfl <| Runs.iload d29_83 rfl <| ?_
        refine bind_el hf fun r9 hg10 hf => ?_
        refine Runs.callP (N := B30) (W := 0) (as := [.int i1, .int i3, .int i5]) (S' := []) d29_85 w157 w158 w159 rfl cw30 ar30 rk29_30_0 (by decide) rfl rfl (X_isStable_pay hg10) <| ans1 <| ?_
        refine ite_el hf (fun hc11 hf => ?_) (fun hc11 hf => ?_)
        · refine Runs.ifY (pc' := 102) d29_88 (teq hc11).1 (by decide) <| ?_
          exact Runs.iinc (P' := [vr a, vi i1, vi i2, vi i3, vi i4, vi (i5 + (1 : Int32)), vi r5]) d29_102 ci_1 rfl (by decide) rfl <| Runs.goto (pc' := 45) d29_105 (by decide) <| Runs.forget [true, true, true, true, true, true, false] rfl <| hk45 ob i1 i2 i3 i4 (i5 + (1 : Int32)) hf
        · refine Runs.ifN d29_88 (feq hc11).1 <| ?_
          refine Runs.aloadN d29_91 rfl <| Runs.getA d29_92 fA_3 w21 (by decide) <| Runs.iload d29_95 rfl <| Runs.iconst d29_97 ci_3 <| ?_
          refine chk_el hf fun hi12 hf => ?_
          exact Runs.iastoreA d29_98 fA_3 (by decide) hi12 <| Runs.iinc (P' := [vr a, vi i1, vi (i2 + (1 : Int32)), vi i3, vi i4, vi i5, vi r5]) d29_99 ci_1 rfl (by decide) rfl <| Runs.iinc (P' := [vr a, vi i1, vi (i2 + (1 : Int32)), vi i3, vi i4, vi (i5 + (1 : Int32)), vi r5]) d29_102 ci_1 rfl (by decide) rfl <| Runs.goto (pc' := 45) d29_105 (by decide) <| Runs.forget [true, true, true, true, true, true, false] rfl <| hk45 (sA ob 3 r5 (3 : Int32)) i1 (i2 + (1 : Int32)) i3 i4 (i5 + (1 : Int32)) hf
      · refine Runs.icY (pc' := 102) d29_77 (feq hc8).2 (by decide) <| ?_
        exact Runs.iinc (P' := [vr a, vi i1, vi i2, vi i3, vi i4, vi (i5 + (1 : Int32)), vi r5]) d29_102 ci_1 rfl (by decide) rfl <| Runs.goto (pc' := 45) d29_105 (by decide) <| Runs.forget [true, true, true, true, true, true, false] rfl <| hk45 ob i1 i2 i3 i4 (i5 + (1 : Int32)) hf
theorem X_prune_l45_p {C : Ctx} {top : Nat} {a : Nat} {H : List (Nat × Nat × Rec)} {res : Int32 × Rec} {NF : Nat} (k26 : Rec → Int32 → Int32 → Int32 → Option (Int32 × Rec)) (hk26 : ∀ (ob : Rec) (i1 : Int32) (i2 : Int32) (i3 : Int32), k26 ob i1 i2 i3 = some res → Runs C B29 0 0 26 [vr a, vi i1, vi i2, vi i3, vn, vn, vn] [] (top, (a, 9, ob) :: H) (Ans (some (.int res.1)) (top, (a, 9, res.2) :: H))) (n : Nat) (ob : Rec) (i1 : Int32) (i2 : Int32) (i3 : Int32) (i4 : Int32) (i5 : Int32) (hf : X_prune_l45 NF k26 n ob i1 i2 i3 i4 i5 = some res) : Runs C B29 0 0 45 [vr a, vi i1, vi i2, vi i3, vi i4, vi i5, vn] [] (top, (a, 9, ob) :: H) (Ans (some (.int res.1)) (top, (a, 9, res.2) :: H)) := by
  induction n generalizing ob i1 i2 i3 i4 i5 with
  | zero => cases (show (none : Option (Int32 × Rec)) = some res from hf)
  | succ n ih => exact X_prune_w45_p k26 hk26 (X_prune_l45 NF k26 n) (fun ob i1 i2 i3 i4 i5 h => ih _ _ _ _ _ _ h) ob i1 i2 i3 i4 i5 hf
def X_prune_w26 (NF : Nat) (k26 : Rec → Int32 → Int32 → Int32 → Option (Int32 × Rec)) (ob : Rec) (i1 : Int32) (i2 : Int32) (i3 : Int32) : Option (Int32 × Rec) :=
  if i3 < (gI ob 0) then
    chk (8 : Int32) i3 <|
    X_prune_l45 NF k26 NF ob i1 i2 i3 (gA ob 0 i3) (1 : Int32)
  else
    some (i2, ob)
def X_prune_l26 (NF : Nat) : Nat → Rec → Int32 → Int32 → Int32 → Option (Int32 × Rec)
  | 0, _, _, _, _ => none
  | n + 1, ob, i1, i2, i3 => X_prune_w26 NF (X_prune_l26 NF n) ob i1 i2 i3
set_option maxRecDepth 65536 in
set_option maxHeartbeats 4000000 in
theorem X_prune_w26_p {C : Ctx} {top : Nat} {a : Nat} {H : List (Nat × Nat × Rec)} {res : Int32 × Rec} {NF : Nat} (k26 : Rec → Int32 → Int32 → Int32 → Option (Int32 × Rec)) (hk26 : ∀ (ob : Rec) (i1 : Int32) (i2 : Int32) (i3 : Int32), k26 ob i1 i2 i3 = some res → Runs C B29 0 0 26 [vr a, vi i1, vi i2, vi i3, vn, vn, vn] [] (top, (a, 9, ob) :: H) (Ans (some (.int res.1)) (top, (a, 9, res.2) :: H))) (ob : Rec) (i1 : Int32) (i2 : Int32) (i3 : Int32) (hf : X_prune_w26 NF k26 ob i1 i2 i3 = some res) : Runs C B29 0 0 26 [vr a, vi i1, vi i2, vi i3, vn, vn, vn] [] (top, (a, 9, ob) :: H) (Ans (some (.int res.1)) (top, (a, 9, res.2) :: H)) := by
  delta X_prune_w26 at hf
  refine Runs.iloadN d29_26 rfl <| Runs.aloadN d29_27 rfl <| Runs.getI d29_28 w33 fS_0 <| ?_
  refine ite_el hf (fun hc1 hf => ?_) (fun hc1 hf => ?_)
  · refine Runs.icN d29_31 (tlt hc1).2.1 <| ?_
    refine Runs.aloadN d29_34 rfl <| Runs.getA d29_35 fA_0 w14 (by decide) <| Runs.iloadN d29_38 rfl <| ?_
    refine chk_el hf fun hi2 hf => ?_
    exact Runs.ialoadA d29_39 fA_0 (by decide) hi2 <| Runs.istore (P' := [vr a, vi i1, vi i2, vi i3, vi (gA ob 0 i3), vn, vn]) d29_40 (by decide) rfl <| Runs.iconst d29_42 ci_1 <| Runs.istore (P' := [vr a, vi i1, vi i2, vi i3, vi (gA ob 0 i3), vi (1 : Int32), vn]) d29_43 (by decide) rfl <| X_prune_l45_p k26 hk26 NF ob i1 i2 i3 (gA ob 0 i3) (1 : Int32) hf
  · refine Runs.icY (pc' := 114) d29_31 (flt hc1).2.1 (by decide) <| ?_
    obtain rfl := Option.some.inj hf
    exact Runs.iloadN d29_114 rfl <| Runs.retI d29_115 rfl ⟨by decide, by decide⟩ ⟨rfl, rfl⟩
theorem X_prune_l26_p {C : Ctx} {top : Nat} {a : Nat} {H : List (Nat × Nat × Rec)} {res : Int32 × Rec} {NF : Nat} (n : Nat) (ob : Rec) (i1 : Int32) (i2 : Int32) (i3 : Int32) (hf : X_prune_l26 NF n ob i1 i2 i3 = some res) : Runs C B29 0 0 26 [vr a, vi i1, vi i2, vi i3, vn, vn, vn] [] (top, (a, 9, ob) :: H) (Ans (some (.int res.1)) (top, (a, 9, res.2) :: H)) := by
  induction n generalizing ob i1 i2 i3 with
  | zero => cases (show (none : Option (Int32 × Rec)) = some res from hf)
  | succ n ih => exact X_prune_w26_p (X_prune_l26 NF n) (fun ob i1 i2 i3 h => ih _ _ _ _ h) ob i1 i2 i3 hf
def X_prune (NF : Nat) (ob : Rec) (i1 : Int32) : Option (Int32 × Rec) :=
  (X_validProc ob i1).bind fun r13 =>
  if r13 = (0 : Int32) then
    some ((-1 : Int32), ob)
  else
    chk (8 : Int32) i1 <|
    if (gA ob 1 i1) = (0 : Int32) then
      X_prune_l26 NF NF ob i1 (0 : Int32) (0 : Int32)
    else
      some ((-2 : Int32), ob)
set_option maxRecDepth 65536 in
set_option maxHeartbeats 4000000 in
theorem X_prune_p {C : Ctx} {top : Nat} {a : Nat} {H : List (Nat × Nat × Rec)} {res : Int32 × Rec} {NF : Nat} (ob : Rec) (i1 : Int32) (hf : X_prune NF ob i1 = some res) : Runs C B29 0 0 0 [vr a, vi i1, vn, vn, vn, vn, vn] [] (top, (a, 9, ob) :: H) (Ans (some (.int res.1)) (top, (a, 9, res.2) :: H)) := by
  delta X_prune at hf
  refine Runs.aloadN d29_0 rfl <| Runs.iloadN d29_1 rfl <| ?_
  refine bind_el hf fun r13 hg14 hf => ?_
  refine Runs.callP (N := B5) (W := 0) (as := [.int i1]) (S' := []) d29_2 w45 w46 w47 rfl cw5 ar5 rk29_5_0 (by decide) rfl rfl (X_validProc_pay hg14) <| ans1 <| ?_
  refine ite_el hf (fun hc15 hf => ?_) (fun hc15 hf => ?_)
  · refine Runs.ifN d29_5 (teq hc15).2 <| ?_
    obtain rfl := Option.some.inj hf
    exact Runs.iconst d29_8 ci_m1 <| Runs.retI d29_9 rfl ⟨by decide, by decide⟩ ⟨rfl, rfl⟩
  · refine Runs.ifY (pc' := 10) d29_5 (feq hc15).2 (by decide) <| ?_
    refine Runs.aloadN d29_10 rfl <| Runs.getA d29_11 fA_1 w17 (by decide) <| Runs.iloadN d29_14 rfl <| ?_
    refine chk_el hf fun hi16 hf => ?_
    refine Runs.baloadA d29_15 fA_1 (by decide) hi16 <| ?_
    refine ite_el hf (fun hc17 hf => ?_) (fun hc17 hf => ?_)
    · refine Runs.ifY (pc' := 22) d29_16 (teq hc17).1 (by decide) <| ?_
      exact Runs.iconst d29_22 ci_0 <| Runs.istoreN (P' := [vr a, vi i1, vi (0 : Int32), vn, vn, vn, vn]) d29_23 (by decide) rfl <| Runs.iconst d29_24 ci_0 <| Runs.istoreN (P' := [vr a, vi i1, vi (0 : Int32), vi (0 : Int32), vn, vn, vn]) d29_25 (by decide) rfl <| X_prune_l26_p NF ob i1 (0 : Int32) (0 : Int32) hf
    · refine Runs.ifN d29_16 (feq hc17).1 <| ?_
      obtain rfl := Option.some.inj hf
      exact Runs.bipush d29_19 cb_m2 <| Runs.retI d29_21 rfl ⟨by decide, by decide⟩ ⟨rfl, rfl⟩
theorem X_prune_pay {C : Ctx} {top : Nat} {a : Nat} {H : List (Nat × Nat × Rec)} {res : Int32 × Rec} {NF : Nat} {ob : Rec} {i1 : Int32} (hf : X_prune NF ob i1 = some res) : Pays C B29 [.ref a, .int i1] (top, (a, 9, ob) :: H) (Ans (some (.int res.1)) (top, (a, 9, res.2) :: H)) :=
  Pays.of pnK (Nat.le_of_ble_eq_true rfl) (P := [vr a, vi i1, vn, vn, vn, vn, vn]) 5 rfl (X_prune_p ob i1 hf)
def X_othersAllCrashed_w2 (NF : Nat) (ob : Rec) (k2 : Int32 → Int32 → Option (Int32)) (i1 : Int32) (i2 : Int32) : Option (Int32) :=
  if i2 < (gI ob 0) then
    if i2 = i1 then
      k2 i1 (i2 + (1 : Int32))
    else
      chk (8 : Int32) i2 <|
      if (gA ob 1 i2) = (0 : Int32) then
        some (0 : Int32)
      else
        k2 i1 (i2 + (1 : Int32))
  else
    some (1 : Int32)
def X_othersAllCrashed_l2 (NF : Nat) (ob : Rec) : Nat → Int32 → Int32 → Option (Int32)
  | 0, _, _ => none
  | n + 1, i1, i2 => X_othersAllCrashed_w2 NF ob (X_othersAllCrashed_l2 NF ob n) i1 i2
set_option maxRecDepth 65536 in
set_option maxHeartbeats 4000000 in
theorem X_othersAllCrashed_w2_p {C : Ctx} {top : Nat} {a : Nat} {H : List (Nat × Nat × Rec)} {ob : Rec} {res : Int32} {NF : Nat} (k2 : Int32 → Int32 → Option (Int32)) (hk2 : ∀ (i1 : Int32) (i2 : Int32), k2 i1 i2 = some res → Runs C B32 0 0 2 [vr a, vi i1, vi i2] [] (top, (a, 9, ob) :: H) (Ans (some (.int res)) (top, (a, 9, ob) :: H))) (i1 : Int32) (i2 : Int32) (hf : X_othersAllCrashed_w2 NF ob k2 i1 i2 = some res) : Runs C B32 0 0 2 [vr a, vi i1, vi i2] [] (top, (a, 9, ob) :: H) (Ans (some (.int res)) (top, (a, 9, ob) :: H)) := by
  delta X_othersAllCrashed_w2 at hf
  refine Runs.iloadN d32_2 rfl <| Runs.aloadN d32_3 rfl <| Runs.getI d32_4 w33 fS_0 <| ?_
  refine ite_el hf (fun hc1 hf => ?_) (fun hc1 hf => ?_)
  · refine Runs.icN d32_7 (tlt hc1).2.1 <| ?_
    refine Runs.iloadN d32_10 rfl <| Runs.iloadN d32_11 rfl <| ?_
    refine ite_el hf (fun hc2 hf => ?_) (fun hc2 hf => ?_)
    · refine Runs.icY (pc' := 26) d32_12 (teq hc2).1 (by decide) <| ?_
      exact Runs.iinc (P' := [vr a, vi i1, vi (i2 + (1 : Int32))]) d32_26 ci_1 rfl (by decide) rfl <| Runs.goto (pc' := 2) d32_29 (by decide) <| hk2 i1 (i2 + (1 : Int32)) hf
    · refine Runs.icN d32_12 (feq hc2).1 <| ?_
      refine Runs.aloadN d32_15 rfl <| Runs.getA d32_16 fA_1 w17 (by decide) <| Runs.iloadN d32_19 rfl <| ?_
      refine chk_el hf fun hi3 hf => ?_
      refine Runs.baloadA d32_20 fA_1 (by decide) hi3 <| ?_
      refine ite_el hf (fun hc4 hf => ?_) (fun hc4 hf => ?_)
      · refine Runs.ifN d32_21 (teq hc4).2 <| ?_
        obtain rfl := Option.some.inj hf
        exact Runs.iconst d32_24 ci_0 <| Runs.retZ (y := (0 : Int32)) d32_25 rfl ⟨by decide, by decide⟩ rfl ⟨rfl, rfl⟩
      · refine Runs.ifY (pc' := 26) d32_21 (feq hc4).2 (by decide) <| ?_
        exact Runs.iinc (P' := [vr a, vi i1, vi (i2 + (1 : Int32))]) d32_26 ci_1 rfl (by decide) rfl <| Runs.goto (pc' := 2) d32_29 (by decide) <| hk2 i1 (i2 + (1 : Int32)) hf
  · refine Runs.icY (pc' := 32) d32_7 (flt hc1).2.1 (by decide) <| ?_
    obtain rfl := Option.some.inj hf
    exact Runs.iconst d32_32 ci_1 <| Runs.retZ (y := (1 : Int32)) d32_33 rfl ⟨by decide, by decide⟩ rfl ⟨rfl, rfl⟩
theorem X_othersAllCrashed_l2_p {C : Ctx} {top : Nat} {a : Nat} {H : List (Nat × Nat × Rec)} {ob : Rec} {res : Int32} {NF : Nat} (n : Nat) (i1 : Int32) (i2 : Int32) (hf : X_othersAllCrashed_l2 NF ob n i1 i2 = some res) : Runs C B32 0 0 2 [vr a, vi i1, vi i2] [] (top, (a, 9, ob) :: H) (Ans (some (.int res)) (top, (a, 9, ob) :: H)) := by
  induction n generalizing i1 i2 with
  | zero => cases (show (none : Option (Int32)) = some res from hf)
  | succ n ih => exact X_othersAllCrashed_w2_p (X_othersAllCrashed_l2 NF ob n) (fun i1 i2 h => ih _ _ h) i1 i2 hf
def X_othersAllCrashed (NF : Nat) (ob : Rec) (i1 : Int32) : Option (Int32) :=
  X_othersAllCrashed_l2 NF ob NF i1 (0 : Int32)
set_option maxRecDepth 65536 in
set_option maxHeartbeats 4000000 in
theorem X_othersAllCrashed_p {C : Ctx} {top : Nat} {a : Nat} {H : List (Nat × Nat × Rec)} {ob : Rec} {res : Int32} {NF : Nat} (i1 : Int32) (hf : X_othersAllCrashed NF ob i1 = some res) : Runs C B32 0 0 0 [vr a, vi i1, vn] [] (top, (a, 9, ob) :: H) (Ans (some (.int res)) (top, (a, 9, ob) :: H)) := by
  delta X_othersAllCrashed at hf
  exact Runs.iconst d32_0 ci_0 <| Runs.istoreN (P' := [vr a, vi i1, vi (0 : Int32)]) d32_1 (by decide) rfl <| X_othersAllCrashed_l2_p NF i1 (0 : Int32) hf
theorem X_othersAllCrashed_pay {C : Ctx} {top : Nat} {a : Nat} {H : List (Nat × Nat × Rec)} {ob : Rec} {res : Int32} {NF : Nat} {i1 : Int32} (hf : X_othersAllCrashed NF ob i1 = some res) : Pays C B32 [.ref a, .int i1] (top, (a, 9, ob) :: H) (Ans (some (.int res)) (top, (a, 9, ob) :: H)) :=
  Pays.of pnK (Nat.le_of_ble_eq_true rfl) (P := [vr a, vi i1, vn]) 1 rfl (X_othersAllCrashed_p i1 hf)
def X_crash (NF : Nat) (ob : Rec) (i1 : Int32) : Option (Int32 × Rec) :=
  (X_validProc ob i1).bind fun r1 =>
  if r1 = (0 : Int32) then
    some ((-1 : Int32), ob)
  else
    chk (8 : Int32) i1 <|
    if (gA ob 1 i1) = (0 : Int32) then
      (X_othersAllCrashed NF ob i1).bind fun r6 =>
      if r6 = (0 : Int32) then
        chk (8 : Int32) i1 <|
        some ((0 : Int32), (sA ob 1 i1 (1 : Int32)))
      else
        some ((-7 : Int32), ob)
    else
      some ((-2 : Int32), ob)
set_option maxRecDepth 65536 in
set_option maxHeartbeats 4000000 in
theorem X_crash_p {C : Ctx} {top : Nat} {a : Nat} {H : List (Nat × Nat × Rec)} {res : Int32 × Rec} {NF : Nat} (ob : Rec) (i1 : Int32) (hf : X_crash NF ob i1 = some res) : Runs C B31 0 0 0 [vr a, vi i1] [] (top, (a, 9, ob) :: H) (Ans (some (.int res.1)) (top, (a, 9, res.2) :: H)) := by
  delta X_crash at hf
  refine Runs.aloadN d31_0 rfl <| Runs.iloadN d31_1 rfl <| ?_
  refine bind_el hf fun r1 hg2 hf => ?_
  refine Runs.callP (N := B5) (W := 0) (as := [.int i1]) (S' := []) d31_2 w45 w46 w47 rfl cw5 ar5 rk31_5_0 (by decide) rfl rfl (X_validProc_pay hg2) <| ans1 <| ?_
  refine ite_el hf (fun hc3 hf => ?_) (fun hc3 hf => ?_)
  · refine Runs.ifN d31_5 (teq hc3).2 <| ?_
    obtain rfl := Option.some.inj hf
    exact Runs.iconst d31_8 ci_m1 <| Runs.retI d31_9 rfl ⟨by decide, by decide⟩ ⟨rfl, rfl⟩
  · refine Runs.ifY (pc' := 10) d31_5 (feq hc3).2 (by decide) <| ?_
    refine Runs.aloadN d31_10 rfl <| Runs.getA d31_11 fA_1 w17 (by decide) <| Runs.iloadN d31_14 rfl <| ?_
    refine chk_el hf fun hi4 hf => ?_
    refine Runs.baloadA d31_15 fA_1 (by decide) hi4 <| ?_
    refine ite_el hf (fun hc5 hf => ?_) (fun hc5 hf => ?_)
    · refine Runs.ifY (pc' := 22) d31_16 (teq hc5).1 (by decide) <| ?_
      refine Runs.aloadN d31_22 rfl <| Runs.iloadN d31_23 rfl <| ?_
      refine bind_el hf fun r6 hg7 hf => ?_
      refine Runs.callP (N := B32) (W := 0) (as := [.int i1]) (S' := []) d31_24 w166 w167 w168 rfl cw32 ar32 rk31_32_0 (by decide) rfl rfl (X_othersAllCrashed_pay hg7) <| ans1 <| ?_
      refine ite_el hf (fun hc8 hf => ?_) (fun hc8 hf => ?_)
      · refine Runs.ifY (pc' := 33) d31_27 (teq hc8).1 (by decide) <| ?_
        refine Runs.aloadN d31_33 rfl <| Runs.getA d31_34 fA_1 w17 (by decide) <| Runs.iloadN d31_37 rfl <| Runs.iconst d31_38 ci_1 <| ?_
        refine chk_el hf fun hi9 hf => ?_
        obtain rfl := Option.some.inj hf
        exact Runs.bastoreA (y := (1 : Int32)) d31_39 fA_1 (by decide) hi9 rfl <| Runs.iconst d31_40 ci_0 <| Runs.retI d31_41 rfl ⟨by decide, by decide⟩ ⟨rfl, rfl⟩
      · refine Runs.ifN d31_27 (feq hc8).1 <| ?_
        obtain rfl := Option.some.inj hf
        exact Runs.bipush d31_30 cb_m7 <| Runs.retI d31_32 rfl ⟨by decide, by decide⟩ ⟨rfl, rfl⟩
    · refine Runs.ifN d31_16 (feq hc5).1 <| ?_
      obtain rfl := Option.some.inj hf
      exact Runs.bipush d31_19 cb_m2 <| Runs.retI d31_21 rfl ⟨by decide, by decide⟩ ⟨rfl, rfl⟩
theorem X_crash_pay {C : Ctx} {top : Nat} {a : Nat} {H : List (Nat × Nat × Rec)} {res : Int32 × Rec} {NF : Nat} {ob : Rec} {i1 : Int32} (hf : X_crash NF ob i1 = some res) : Pays C B31 [.ref a, .int i1] (top, (a, 9, ob) :: H) (Ans (some (.int res.1)) (top, (a, 9, res.2) :: H)) :=
  Pays.of pnK (Nat.le_of_ble_eq_true rfl) (P := [vr a, vi i1]) 0 rfl (X_crash_p ob i1 hf)
def L_law_b377 (NF : Nat) (z : Int32) (f : Int32 → Int32) (k43 : Rec → Int32 → Int32 → Int32 → Option (Int32)) (ob : Rec) (i1 : Int32) (i2 : Int32) (i4 : Int32) : Option (Int32) :=
  (L_holds NF ob i1).bind fun r58 =>
  if r58 = (0 : Int32) then
    some (0 : Int32)
  else
    k43 ob i1 i2 (i4 + (4 : Int32))
set_option maxRecDepth 65536 in
set_option maxHeartbeats 4000000 in
theorem L_law_b377_p {C : Ctx} {sa : Nat} {z : Int32} {f : Int32 → Int32} (hs : ScrF C sa z f) {res : Int32} {NF : Nat} (k43 : Rec → Int32 → Int32 → Int32 → Option (Int32)) (hk43 : ∀ (ob : Rec) (i1 : Int32) (i2 : Int32) (i4 : Int32), k43 ob i1 i2 i4 = some res → Runs C B0 10 2659 43 [vr sa, vi i1, vi i2, vr C.2.2.1, vi i4, vn, vn, vn, vn, vn, vn, vn, vn, vn, vn, vn] [] (C.2.2.1 + 1 + 9, (C.2.2.1, 9, ob) :: []) (fun v _ => v = (some (.int res)))) (ob : Rec) (i1 : Int32) (i2 : Int32) (i4 : Int32) (hf : L_law_b377 NF z f k43 ob i1 i2 i4 = some res) : Runs C B0 10 2659 377 [vr sa, vi i1, vi i2, vr C.2.2.1, vi i4, vn, vn, vn, vn, vn, vn, vn, vn, vn, vn, vn] [] (C.2.2.1 + 1 + 9, (C.2.2.1, 9, ob) :: []) (fun v _ => v = (some (.int res))) := by
  delta L_law_b377 at hf
  refine Runs.aloadN d0_377 rfl <| Runs.iloadN d0_378 rfl <| ?_
  refine bind_el hf fun r58 hg59 hf => ?_
  refine Runs.callS (N := B3) (W := 0) (as := [.ref C.2.2.1, .int i1]) (S' := []) d0_379 w37 w38 cw3 ar3 rk0_3_0 (by decide) rfl rfl (L_holds_pay hg59) <| ans1 <| ?_
  refine ite_el hf (fun hc60 hf => ?_) (fun hc60 hf => ?_)
  · refine Runs.ifN d0_382 (teq hc60).2 <| ?_
    obtain rfl := Option.some.inj hf
    exact Runs.iconst d0_385 ci_0 <| Runs.retZ (y := (0 : Int32)) d0_386 rfl ⟨by decide, by decide⟩ rfl rfl
  · refine Runs.ifY (pc' := 387) d0_382 (feq hc60).2 (by decide) <| ?_
    exact Runs.iinc (P' := [vr sa, vi i1, vi i2, vr C.2.2.1, vi (i4 + (4 : Int32)), vn, vn, vn, vn, vn, vn, vn, vn, vn, vn, vn]) d0_387 ci_4 rfl (by decide) rfl <| Runs.goto (pc' := 43) d0_390 (by decide) <| hk43 ob i1 i2 (i4 + (4 : Int32)) hf
def L_law_w171 (NF : Nat) (z : Int32) (f : Int32 → Int32) (k43 : Rec → Int32 → Int32 → Int32 → Option (Int32)) (k171 : Rec → Int32 → Int32 → Int32 → Int32 → Int32 → Int32 → Int32 → Option (Int32)) (ob : Rec) (i1 : Int32) (i2 : Int32) (i4 : Int32) (i8 : Int32) (i9 : Int32) (i10 : Int32) (i13 : Int32) : Option (Int32) :=
  if i13 < (i1 * i2) then
    dvz i2 <|
    dvz i1 <|
    dvz i2 <|
    (X_copies ob ((i10 + (i13 / i2)) % i1) ((1 : Int32) + (((i8 &&& (7 : Int32)) + i13) % i2)) i9).bind fun r52 =>
    if (0 : Int32) < r52 then
      bind2 (X_receive NF ob i9 ((i10 + (i13 / i2)) % i1) ((1 : Int32) + (((i8 &&& (7 : Int32)) + i13) % i2))) fun r55 q56 =>
      L_law_b377 NF z f k43 q56 i1 i2 i4
    else
      k171 ob i1 i2 i4 i8 i9 i10 (i13 + (1 : Int32))
  else
    L_law_b377 NF z f k43 ob i1 i2 i4
def L_law_l171 (NF : Nat) (z : Int32) (f : Int32 → Int32) (k43 : Rec → Int32 → Int32 → Int32 → Option (Int32)) : Nat → Rec → Int32 → Int32 → Int32 → Int32 → Int32 → Int32 → Int32 → Option (Int32)
  | 0, _, _, _, _, _, _, _, _ => none
  | n + 1, ob, i1, i2, i4, i8, i9, i10, i13 => L_law_w171 NF z f k43 (L_law_l171 NF z f k43 n) ob i1 i2 i4 i8 i9 i10 i13
set_option maxRecDepth 65536 in
set_option maxHeartbeats 4000000 in
theorem L_law_w171_p {C : Ctx} {sa : Nat} {z : Int32} {f : Int32 → Int32} (hs : ScrF C sa z f) {res : Int32} {NF : Nat} (k43 : Rec → Int32 → Int32 → Int32 → Option (Int32)) (hk43 : ∀ (ob : Rec) (i1 : Int32) (i2 : Int32) (i4 : Int32), k43 ob i1 i2 i4 = some res → Runs C B0 10 2659 43 [vr sa, vi i1, vi i2, vr C.2.2.1, vi i4, vn, vn, vn, vn, vn, vn, vn, vn, vn, vn, vn] [] (C.2.2.1 + 1 + 9, (C.2.2.1, 9, ob) :: []) (fun v _ => v = (some (.int res)))) (k171 : Rec → Int32 → Int32 → Int32 → Int32 → Int32 → Int32 → Int32 → Option (Int32)) (hk171 : ∀ (ob : Rec) (i1 : Int32) (i2 : Int32) (i4 : Int32) (i8 : Int32) (i9 : Int32) (i10 : Int32) (i13 : Int32), k171 ob i1 i2 i4 i8 i9 i10 i13 = some res → Runs C B0 10 2659 171 [vr sa, vi i1, vi i2, vr C.2.2.1, vi i4, vn, vn, vn, vi i8, vi i9, vi i10, vn, vn, vi i13, vn, vn] [] (C.2.2.1 + 1 + 9, (C.2.2.1, 9, ob) :: []) (fun v _ => v = (some (.int res)))) (ob : Rec) (i1 : Int32) (i2 : Int32) (i4 : Int32) (i8 : Int32) (i9 : Int32) (i10 : Int32) (i13 : Int32) (hf : L_law_w171 NF z f k43 k171 ob i1 i2 i4 i8 i9 i10 i13 = some res) : Runs C B0 10 2659 171 [vr sa, vi i1, vi i2, vr C.2.2.1, vi i4, vn, vn, vn, vi i8, vi i9, vi i10, vn, vn, vi i13, vn, vn] [] (C.2.2.1 + 1 + 9, (C.2.2.1, 9, ob) :: []) (fun v _ => v = (some (.int res))) := by
  delta L_law_w171 at hf
  refine Runs.iload d0_171 rfl <| Runs.iloadN d0_173 rfl <| Runs.iloadN d0_174 rfl <| Runs.imul d0_175 <| ?_
  refine ite_el hf (fun hc48 hf => ?_) (fun hc48 hf => ?_)
  · refine Runs.icN d0_176 (tlt hc48).2.1 <| ?_
    refine Runs.iload d0_179 rfl <| Runs.iload d0_181 rfl <| Runs.iloadN d0_183 rfl <| ?_
    refine dvz_el hf fun hz49 hf => ?_
    refine Runs.idiv d0_184 hz49 <| Runs.iadd d0_185 <| Runs.iloadN d0_186 rfl <| ?_
    refine dvz_el hf fun hz50 hf => ?_
    refine Runs.irem d0_187 hz50 <| Runs.istore (P' := [vr sa, vi i1, vi i2, vr C.2.2.1, vi i4, vn, vn, vn, vi i8, vi i9, vi i10, vn, vn, vi i13, vi ((i10 + (i13 / i2)) % i1), vn]) d0_188 (by decide) rfl <| Runs.iconst d0_190 ci_1 <| Runs.iload d0_191 rfl <| Runs.bipush d0_193 cb_7 <| Runs.iand d0_195 <| Runs.iload d0_196 rfl <| Runs.iadd d0_198 <| Runs.iloadN d0_199 rfl <| ?_
    refine dvz_el hf fun hz51 hf => ?_
    refine Runs.irem d0_200 hz51 <| Runs.iadd d0_201 <| Runs.istore (P' := [vr sa, vi i1, vi i2, vr C.2.2.1, vi i4, vn, vn, vn, vi i8, vi i9, vi i10, vn, vn, vi i13, vi ((i10 + (i13 / i2)) % i1), vi ((1 : Int32) + (((i8 &&& (7 : Int32)) + i13) % i2))]) d0_202 (by decide) rfl <| Runs.aloadN d0_204 rfl <| Runs.iload d0_205 rfl <| Runs.iload d0_207 rfl <| Runs.iload d0_209 rfl <| ?_
    refine bind_el hf fun r52 hg53 hf => ?_
    refine Runs.callV (N := B20) (W := 0) (as := [.int ((i10 + (i13 / i2)) % i1), .int ((1 : Int32) + (((i8 &&& (7 : Int32)) + i13) % i2)), .int i9]) (S' := []) d0_211 w110 w111 w112 w113 cw20 ar20 rk0_20_0 (by decide) rfl rfl (X_copies_pay hg53) <| ans1 <| ?_
    refine ite_el hf (fun hc54 hf => ?_) (fun hc54 hf => ?_)
    · refine Runs.ifN d0_214 (tlt hc54).2.2.2 <| ?_
      refine Runs.aloadN d0_217 rfl <| Runs.iload d0_218 rfl <| Runs.iload d0_220 rfl <| Runs.iload d0_222 rfl <| ?_
      refine bind2_el hf fun r55 q56 hg57 hf => ?_
      exact Runs.callV (N := B22) (W := 0) (as := [.int i9, .int ((i10 + (i13 / i2)) % i1), .int ((1 : Int32) + (((i8 &&& (7 : Int32)) + i13) % i2))]) (S' := []) d0_224 w119 w120 w121 w122 cw22 ar22 rk0_22_0 (by decide) rfl rfl (X_receive_pay hg57) <| ans1 <| Runs.pop d0_227 rfl <| Runs.goto (pc' := 237) d0_228 (by decide) <| Runs.goto (pc' := 377) d0_237 (by decide) <| Runs.forget [true, true, true, true, true, false, false, false, false, false, false, false, false, false, false, false] rfl <| L_law_b377_p hs k43 hk43 q56 i1 i2 i4 hf
    · refine Runs.ifY (pc' := 231) d0_214 (flt hc54).2.2.2 (by decide) <| ?_
      exact Runs.iinc (P' := [vr sa, vi i1, vi i2, vr C.2.2.1, vi i4, vn, vn, vn, vi i8, vi i9, vi i10, vn, vn, vi (i13 + (1 : Int32)), vi ((i10 + (i13 / i2)) % i1), vi ((1 : Int32) + (((i8 &&& (7 : Int32)) + i13) % i2))]) d0_231 ci_1 rfl (by decide) rfl <| Runs.goto (pc' := 171) d0_234 (by decide) <| Runs.forget [true, true, true, true, true, false, false, false, true, true, true, false, false, true, false, false] rfl <| hk171 ob i1 i2 i4 i8 i9 i10 (i13 + (1 : Int32)) hf
  · refine Runs.icY (pc' := 237) d0_176 (flt hc48).2.1 (by decide) <| ?_
    exact Runs.goto (pc' := 377) d0_237 (by decide) <| Runs.forget [true, true, true, true, true, false, false, false, false, false, false, false, false, false, false, false] rfl <| L_law_b377_p hs k43 hk43 ob i1 i2 i4 hf
theorem L_law_l171_p {C : Ctx} {sa : Nat} {z : Int32} {f : Int32 → Int32} (hs : ScrF C sa z f) {res : Int32} {NF : Nat} (k43 : Rec → Int32 → Int32 → Int32 → Option (Int32)) (hk43 : ∀ (ob : Rec) (i1 : Int32) (i2 : Int32) (i4 : Int32), k43 ob i1 i2 i4 = some res → Runs C B0 10 2659 43 [vr sa, vi i1, vi i2, vr C.2.2.1, vi i4, vn, vn, vn, vn, vn, vn, vn, vn, vn, vn, vn] [] (C.2.2.1 + 1 + 9, (C.2.2.1, 9, ob) :: []) (fun v _ => v = (some (.int res)))) (n : Nat) (ob : Rec) (i1 : Int32) (i2 : Int32) (i4 : Int32) (i8 : Int32) (i9 : Int32) (i10 : Int32) (i13 : Int32) (hf : L_law_l171 NF z f k43 n ob i1 i2 i4 i8 i9 i10 i13 = some res) : Runs C B0 10 2659 171 [vr sa, vi i1, vi i2, vr C.2.2.1, vi i4, vn, vn, vn, vi i8, vi i9, vi i10, vn, vn, vi i13, vn, vn] [] (C.2.2.1 + 1 + 9, (C.2.2.1, 9, ob) :: []) (fun v _ => v = (some (.int res))) := by
  induction n generalizing ob i1 i2 i4 i8 i9 i10 i13 with
  | zero => cases (show (none : Option (Int32)) = some res from hf)
  | succ n ih => exact L_law_w171_p hs k43 hk43 (L_law_l171 NF z f k43 n) (fun ob i1 i2 i4 i8 i9 i10 i13 h => ih _ _ _ _ _ _ _ _ h) ob i1 i2 i4 i8 i9 i10 i13 hf
def L_law_b141 (NF : Nat) (z : Int32) (f : Int32 → Int32) (k43 : Rec → Int32 → Int32 → Int32 → Option (Int32)) (ob : Rec) (i1 : Int32) (i2 : Int32) (i4 : Int32) (i5 : Int32) (i7 : Int32) (i8 : Int32) (i9 : Int32) (i10 : Int32) (t0 : Int32) (t1 : Int32) (t2 : Int32) : Option (Int32) :=
  dvz t2 <|
  if i5 < (3 : Int32) then
    bind2 (X_broadcast NF ob i9) fun r17 q18 =>
    L_law_b377 NF z f k43 q18 i1 i2 i4
  else
    if i5 < (8 : Int32) then
      L_law_l171 NF z f k43 NF ob i1 i2 i4 i8 i9 i10 (0 : Int32)
    else
      if i5 = (8 : Int32) then
        bind2 (X_duplicate ob i10 (t0 + (t1 % t2)) i9) fun r22 q23 =>
        L_law_b377 NF z f k43 q23 i1 i2 i4
      else
        if i5 = (9 : Int32) then
          bind2 (X_drop ob i10 (t0 + (t1 % t2)) i9) fun r26 q27 =>
          L_law_b377 NF z f k43 q27 i1 i2 i4
        else
          if i5 < (12 : Int32) then
            dvz (i1 - (1 : Int32)) <|
            dvz i1 <|
            bind2 (X_retransmit ob (((i9 + (1 : Int32)) + (((i8 >>> ((3 : Int32) &&& 31)) &&& (7 : Int32)) % (i1 - (1 : Int32)))) % i1) i9 i10 (t0 + (t1 % t2))) fun r32 q33 =>
            L_law_b377 NF z f k43 q33 i1 i2 i4
          else
            if i5 < (14 : Int32) then
              dvz (i1 - (1 : Int32)) <|
              dvz i1 <|
              bind2 (X_gossip NF ob i9 (((i9 + (1 : Int32)) + ((i7 >>> ((3 : Int32) &&& 31)) % (i1 - (1 : Int32)))) % i1)) fun r38 q39 =>
              L_law_b377 NF z f k43 q39 i1 i2 i4
            else
              if i5 = (14 : Int32) then
                bind2 (X_prune NF ob i9) fun r42 q43 =>
                L_law_b377 NF z f k43 q43 i1 i2 i4
              else
                bind2 (X_crash NF ob i9) fun r45 q46 =>
                L_law_b377 NF z f k43 q46 i1 i2 i4
set_option maxRecDepth 65536 in
set_option maxHeartbeats 4000000 in
theorem L_law_b141_p {C : Ctx} {sa : Nat} {z : Int32} {f : Int32 → Int32} (hs : ScrF C sa z f) {res : Int32} {NF : Nat} (k43 : Rec → Int32 → Int32 → Int32 → Option (Int32)) (hk43 : ∀ (ob : Rec) (i1 : Int32) (i2 : Int32) (i4 : Int32), k43 ob i1 i2 i4 = some res → Runs C B0 10 2659 43 [vr sa, vi i1, vi i2, vr C.2.2.1, vi i4, vn, vn, vn, vn, vn, vn, vn, vn, vn, vn, vn] [] (C.2.2.1 + 1 + 9, (C.2.2.1, 9, ob) :: []) (fun v _ => v = (some (.int res)))) (ob : Rec) (i1 : Int32) (i2 : Int32) (i4 : Int32) (i5 : Int32) (i7 : Int32) (i8 : Int32) (i9 : Int32) (i10 : Int32) (t0 : Int32) (t1 : Int32) (t2 : Int32) (hf : L_law_b141 NF z f k43 ob i1 i2 i4 i5 i7 i8 i9 i10 t0 t1 t2 = some res) : Runs C B0 10 2659 141 [vr sa, vi i1, vi i2, vr C.2.2.1, vi i4, vi i5, vn, vi i7, vi i8, vi i9, vi i10, vn, vn, vn, vn, vn] [.int t2, .int t1, .int t0] (C.2.2.1 + 1 + 9, (C.2.2.1, 9, ob) :: []) (fun v _ => v = (some (.int res))) := by
  delta L_law_b141 at hf
  refine dvz_el hf fun hz15 hf => ?_
  refine Runs.irem d0_141 hz15 <| Runs.iadd d0_142 <| Runs.istore (P' := [vr sa, vi i1, vi i2, vr C.2.2.1, vi i4, vi i5, vn, vi i7, vi i8, vi i9, vi i10, vn, vi (t0 + (t1 % t2)), vn, vn, vn]) d0_143 (by decide) rfl <| Runs.iload d0_145 rfl <| Runs.iconst d0_147 ci_3 <| ?_
  refine ite_el hf (fun hc16 hf => ?_) (fun hc16 hf => ?_)
  · refine Runs.icN d0_148 (tlt hc16).2.1 <| ?_
    refine Runs.aloadN d0_151 rfl <| Runs.iload d0_152 rfl <| ?_
    refine bind2_el hf fun r17 q18 hg19 hf => ?_
    exact Runs.callV (N := B9) (W := 0) (as := [.int i9]) (S' := []) d0_154 w63 w64 w65 w66 cw9 ar9 rk0_9_0 (by decide) rfl rfl (X_broadcast_pay hg19) <| ans1 <| Runs.pop d0_157 rfl <| Runs.goto (pc' := 377) d0_158 (by decide) <| Runs.forget [true, true, true, true, true, false, false, false, false, false, false, false, false, false, false, false] rfl <| L_law_b377_p hs k43 hk43 q18 i1 i2 i4 hf
  · refine Runs.icY (pc' := 161) d0_148 (flt hc16).2.1 (by decide) <| ?_
    refine Runs.iload d0_161 rfl <| Runs.bipush d0_163 cb_8 <| ?_
    refine ite_el hf (fun hc20 hf => ?_) (fun hc20 hf => ?_)
    · refine Runs.icN d0_165 (tlt hc20).2.1 <| ?_
      exact Runs.iconst d0_168 ci_0 <| Runs.istore (P' := [vr sa, vi i1, vi i2, vr C.2.2.1, vi i4, vi i5, vn, vi i7, vi i8, vi i9, vi i10, vn, vi (t0 + (t1 % t2)), vi (0 : Int32), vn, vn]) d0_169 (by decide) rfl <| Runs.forget [true, true, true, true, true, false, false, false, true, true, true, false, false, true, false, false] rfl <| L_law_l171_p hs k43 hk43 NF ob i1 i2 i4 i8 i9 i10 (0 : Int32) hf
    · refine Runs.icY (pc' := 240) d0_165 (flt hc20).2.1 (by decide) <| ?_
      refine Runs.iload d0_240 rfl <| Runs.bipush d0_242 cb_8 <| ?_
      refine ite_el hf (fun hc21 hf => ?_) (fun hc21 hf => ?_)
      · refine Runs.icN d0_244 (teq hc21).2 <| ?_
        refine Runs.aloadN d0_247 rfl <| Runs.iload d0_248 rfl <| Runs.iload d0_250 rfl <| Runs.iload d0_252 rfl <| ?_
        refine bind2_el hf fun r22 q23 hg24 hf => ?_
        exact Runs.callV (N := B27) (W := 0) (as := [.int i10, .int (t0 + (t1 % t2)), .int i9]) (S' := []) d0_254 w142 w143 w144 w145 cw27 ar27 rk0_27_0 (by decide) rfl rfl (X_duplicate_pay hg24) <| ans1 <| Runs.pop d0_257 rfl <| Runs.goto (pc' := 377) d0_258 (by decide) <| Runs.forget [true, true, true, true, true, false, false, false, false, false, false, false, false, false, false, false] rfl <| L_law_b377_p hs k43 hk43 q23 i1 i2 i4 hf
      · refine Runs.icY (pc' := 261) d0_244 (feq hc21).2 (by decide) <| ?_
        refine Runs.iload d0_261 rfl <| Runs.bipush d0_263 cb_9 <| ?_
        refine ite_el hf (fun hc25 hf => ?_) (fun hc25 hf => ?_)
        · refine Runs.icN d0_265 (teq hc25).2 <| ?_
          refine Runs.aloadN d0_268 rfl <| Runs.iload d0_269 rfl <| Runs.iload d0_271 rfl <| Runs.iload d0_273 rfl <| ?_
          refine bind2_el hf fun r26 q27 hg28 hf => ?_
          exact Runs.callV (N := B25) (W := 0) (as := [.int i10, .int (t0 + (t1 % t2)), .int i9]) (S' := []) d0_275 w132 w133 w134 w135 cw25 ar25 rk0_25_0 (by decide) rfl rfl (X_drop_pay hg28) <| ans1 <| Runs.pop d0_278 rfl <| Runs.goto (pc' := 377) d0_279 (by decide) <| Runs.forget [true, true, true, true, true, false, false, false, false, false, false, false, false, false, false, false] rfl <| L_law_b377_p hs k43 hk43 q27 i1 i2 i4 hf
        · refine Runs.icY (pc' := 282) d0_265 (feq hc25).2 (by decide) <| ?_
          refine Runs.iload d0_282 rfl <| Runs.bipush d0_284 cb_12 <| ?_
          refine ite_el hf (fun hc29 hf => ?_) (fun hc29 hf => ?_)
          · refine Runs.icN d0_286 (tlt hc29).2.1 <| ?_
            refine Runs.aloadN d0_289 rfl <| Runs.iload d0_290 rfl <| Runs.iconst d0_292 ci_1 <| Runs.iadd d0_293 <| Runs.iload d0_294 rfl <| Runs.iconst d0_296 ci_3 <| Runs.ishr d0_297 <| Runs.bipush d0_298 cb_7 <| Runs.iand d0_300 <| Runs.iloadN d0_301 rfl <| Runs.iconst d0_302 ci_1 <| Runs.isub d0_303 <| ?_
            refine dvz_el hf fun hz30 hf => ?_
            refine Runs.irem d0_304 hz30 <| Runs.iadd d0_305 <| Runs.iloadN d0_306 rfl <| ?_
            refine dvz_el hf fun hz31 hf => ?_
            refine Runs.irem d0_307 hz31 <| Runs.iload d0_308 rfl <| Runs.iload d0_310 rfl <| Runs.iload d0_312 rfl <| ?_
            refine bind2_el hf fun r32 q33 hg34 hf => ?_
            exact Runs.callV (N := B28) (W := 0) (as := [.int (((i9 + (1 : Int32)) + (((i8 >>> ((3 : Int32) &&& 31)) &&& (7 : Int32)) % (i1 - (1 : Int32)))) % i1), .int i9, .int i10, .int (t0 + (t1 % t2))]) (S' := []) d0_314 w147 w148 w149 w150 cw28 ar28 rk0_28_0 (by decide) rfl rfl (X_retransmit_pay hg34) <| ans1 <| Runs.pop d0_317 rfl <| Runs.goto (pc' := 377) d0_318 (by decide) <| Runs.forget [true, true, true, true, true, false, false, false, false, false, false, false, false, false, false, false] rfl <| L_law_b377_p hs k43 hk43 q33 i1 i2 i4 hf
          · refine Runs.icY (pc' := 321) d0_286 (flt hc29).2.1 (by decide) <| ?_
            refine Runs.iload d0_321 rfl <| Runs.bipush d0_323 cb_14 <| ?_
            refine ite_el hf (fun hc35 hf => ?_) (fun hc35 hf => ?_)
            · refine Runs.icN d0_325 (tlt hc35).2.1 <| ?_
              refine Runs.aloadN d0_328 rfl <| Runs.iload d0_329 rfl <| Runs.iload d0_331 rfl <| Runs.iconst d0_333 ci_1 <| Runs.iadd d0_334 <| Runs.iload d0_335 rfl <| Runs.iconst d0_337 ci_3 <| Runs.ishr d0_338 <| Runs.iloadN d0_339 rfl <| Runs.iconst d0_340 ci_1 <| Runs.isub d0_341 <| ?_
              refine dvz_el hf fun hz36 hf => ?_
              refine Runs.irem d0_342 hz36 <| Runs.iadd d0_343 <| Runs.iloadN d0_344 rfl <| ?_
              refine dvz_el hf fun hz37 hf => ?_
              refine Runs.irem d0_345 hz37 <| ?_
              refine bind2_el hf fun r38 q39 hg40 hf => ?_
              exact Runs.callV (N := B26) (W := 0) (as := [.int i9, .int (((i9 + (1 : Int32)) + ((i7 >>> ((3 : Int32) &&& 31)) % (i1 - (1 : Int32)))) % i1)]) (S' := []) d0_346 w137 w138 w139 w140 cw26 ar26 rk0_26_0 (by decide) rfl rfl (X_gossip_pay hg40) <| ans1 <| Runs.pop d0_349 rfl <| Runs.goto (pc' := 377) d0_350 (by decide) <| Runs.forget [true, true, true, true, true, false, false, false, false, false, false, false, false, false, false, false] rfl <| L_law_b377_p hs k43 hk43 q39 i1 i2 i4 hf
            · refine Runs.icY (pc' := 353) d0_325 (flt hc35).2.1 (by decide) <| ?_
              refine Runs.iload d0_353 rfl <| Runs.bipush d0_355 cb_14 <| ?_
              refine ite_el hf (fun hc41 hf => ?_) (fun hc41 hf => ?_)
              · refine Runs.icN d0_357 (teq hc41).2 <| ?_
                refine Runs.aloadN d0_360 rfl <| Runs.iload d0_361 rfl <| ?_
                refine bind2_el hf fun r42 q43 hg44 hf => ?_
                exact Runs.callV (N := B29) (W := 0) (as := [.int i9]) (S' := []) d0_363 w152 w153 w154 w155 cw29 ar29 rk0_29_0 (by decide) rfl rfl (X_prune_pay hg44) <| ans1 <| Runs.pop d0_366 rfl <| Runs.goto (pc' := 377) d0_367 (by decide) <| Runs.forget [true, true, true, true, true, false, false, false, false, false, false, false, false, false, false, false] rfl <| L_law_b377_p hs k43 hk43 q43 i1 i2 i4 hf
              · refine Runs.icY (pc' := 370) d0_357 (feq hc41).2 (by decide) <| ?_
                refine Runs.aloadN d0_370 rfl <| Runs.iload d0_371 rfl <| ?_
                refine bind2_el hf fun r45 q46 hg47 hf => ?_
                exact Runs.callV (N := B31) (W := 0) (as := [.int i9]) (S' := []) d0_373 w161 w162 w163 w164 cw31 ar31 rk0_31_0 (by decide) rfl rfl (X_crash_pay hg47) <| ans1 <| Runs.pop d0_376 rfl <| Runs.forget [true, true, true, true, true, false, false, false, false, false, false, false, false, false, false, false] rfl <| L_law_b377_p hs k43 hk43 q46 i1 i2 i4 hf
def L_law_w43 (NF : Nat) (z : Int32) (f : Int32 → Int32) (k43 : Rec → Int32 → Int32 → Int32 → Option (Int32)) (ob : Rec) (i1 : Int32) (i2 : Int32) (i4 : Int32) : Option (Int32) :=
  if i4 < z then
    (L_cell z f i4).bind fun r2 =>
    (L_cell z f (i4 + (1 : Int32))).bind fun r4 =>
    (L_cell z f (i4 + (2 : Int32))).bind fun r6 =>
    (L_cell z f (i4 + (3 : Int32))).bind fun r8 =>
    dvz i1 <|
    dvz i1 <|
    (X_sent ob ((r6 &&& (1023 : Int32)) % i1)).bind fun r12 =>
    if r12 < (1 : Int32) then
      L_law_b141 NF z f k43 ob i1 i2 i4 (r2 &&& (15 : Int32)) (r6 &&& (1023 : Int32)) (r8 &&& (1023 : Int32)) ((r4 &&& (1023 : Int32)) % i1) ((r6 &&& (1023 : Int32)) % i1) (1 : Int32) ((r8 &&& (1023 : Int32)) &&& (7 : Int32)) (1 : Int32)
    else
      L_law_b141 NF z f k43 ob i1 i2 i4 (r2 &&& (15 : Int32)) (r6 &&& (1023 : Int32)) (r8 &&& (1023 : Int32)) ((r4 &&& (1023 : Int32)) % i1) ((r6 &&& (1023 : Int32)) % i1) (1 : Int32) ((r8 &&& (1023 : Int32)) &&& (7 : Int32)) r12
  else
    some (1 : Int32)
def L_law_l43 (NF : Nat) (z : Int32) (f : Int32 → Int32) : Nat → Rec → Int32 → Int32 → Int32 → Option (Int32)
  | 0, _, _, _, _ => none
  | n + 1, ob, i1, i2, i4 => L_law_w43 NF z f (L_law_l43 NF z f n) ob i1 i2 i4
set_option maxRecDepth 65536 in
set_option maxHeartbeats 4000000 in
theorem L_law_w43_p {C : Ctx} {sa : Nat} {z : Int32} {f : Int32 → Int32} (hs : ScrF C sa z f) {res : Int32} {NF : Nat} (k43 : Rec → Int32 → Int32 → Int32 → Option (Int32)) (hk43 : ∀ (ob : Rec) (i1 : Int32) (i2 : Int32) (i4 : Int32), k43 ob i1 i2 i4 = some res → Runs C B0 10 2659 43 [vr sa, vi i1, vi i2, vr C.2.2.1, vi i4, vn, vn, vn, vn, vn, vn, vn, vn, vn, vn, vn] [] (C.2.2.1 + 1 + 9, (C.2.2.1, 9, ob) :: []) (fun v _ => v = (some (.int res)))) (ob : Rec) (i1 : Int32) (i2 : Int32) (i4 : Int32) (hf : L_law_w43 NF z f k43 ob i1 i2 i4 = some res) : Runs C B0 10 2659 43 [vr sa, vi i1, vi i2, vr C.2.2.1, vi i4, vn, vn, vn, vn, vn, vn, vn, vn, vn, vn, vn] [] (C.2.2.1 + 1 + 9, (C.2.2.1, 9, ob) :: []) (fun v _ => v = (some (.int res))) := by
  delta L_law_w43 at hf
  refine Runs.iload d0_43 rfl <| Runs.aloadN d0_45 rfl <| Runs.lenS hs d0_46 <| ?_
  refine ite_el hf (fun hc1 hf => ?_) (fun hc1 hf => ?_)
  · refine Runs.icN d0_47 (tlt hc1).2.1 <| ?_
    refine Runs.aloadN d0_50 rfl <| Runs.iload d0_51 rfl <| ?_
    refine bind_el hf fun r2 hg3 hf => ?_
    refine Runs.callS (N := B1) (W := 0) (as := [.ref sa, .int i4]) (S' := []) d0_53 w0 w1 cw1 ar1 rk0_1_0 (by decide) rfl rfl (L_cell_pay hs hg3) <| ans1 <| Runs.bipush d0_56 cb_15 <| Runs.iand d0_58 <| Runs.istore (P' := [vr sa, vi i1, vi i2, vr C.2.2.1, vi i4, vi (r2 &&& (15 : Int32)), vn, vn, vn, vn, vn, vn, vn, vn, vn, vn]) d0_59 (by decide) rfl <| Runs.aloadN d0_61 rfl <| Runs.iload d0_62 rfl <| Runs.iconst d0_64 ci_1 <| Runs.iadd d0_65 <| ?_
    refine bind_el hf fun r4 hg5 hf => ?_
    refine Runs.callS (N := B1) (W := 0) (as := [.ref sa, .int (i4 + (1 : Int32))]) (S' := []) d0_66 w0 w1 cw1 ar1 rk0_1_0 (by decide) rfl rfl (L_cell_pay hs hg5) <| ans1 <| Runs.sipush d0_69 cs_1023 <| Runs.iand d0_72 <| Runs.istore (P' := [vr sa, vi i1, vi i2, vr C.2.2.1, vi i4, vi (r2 &&& (15 : Int32)), vi (r4 &&& (1023 : Int32)), vn, vn, vn, vn, vn, vn, vn, vn, vn]) d0_73 (by decide) rfl <| Runs.aloadN d0_75 rfl <| Runs.iload d0_76 rfl <| Runs.iconst d0_78 ci_2 <| Runs.iadd d0_79 <| ?_
    refine bind_el hf fun r6 hg7 hf => ?_
    refine Runs.callS (N := B1) (W := 0) (as := [.ref sa, .int (i4 + (2 : Int32))]) (S' := []) d0_80 w0 w1 cw1 ar1 rk0_1_0 (by decide) rfl rfl (L_cell_pay hs hg7) <| ans1 <| Runs.sipush d0_83 cs_1023 <| Runs.iand d0_86 <| Runs.istore (P' := [vr sa, vi i1, vi i2, vr C.2.2.1, vi i4, vi (r2 &&& (15 : Int32)), vi (r4 &&& (1023 : Int32)), vi (r6 &&& (1023 : Int32)), vn, vn, vn, vn, vn, vn, vn, vn]) d0_87 (by decide) rfl <| Runs.aloadN d0_89 rfl <| Runs.iload d0_90 rfl <| Runs.iconst d0_92 ci_3 <| Runs.iadd d0_93 <| ?_
    refine bind_el hf fun r8 hg9 hf => ?_
    refine Runs.callS (N := B1) (W := 0) (as := [.ref sa, .int (i4 + (3 : Int32))]) (S' := []) d0_94 w0 w1 cw1 ar1 rk0_1_0 (by decide) rfl rfl (L_cell_pay hs hg9) <| ans1 <| Runs.sipush d0_97 cs_1023 <| Runs.iand d0_100 <| Runs.istore (P' := [vr sa, vi i1, vi i2, vr C.2.2.1, vi i4, vi (r2 &&& (15 : Int32)), vi (r4 &&& (1023 : Int32)), vi (r6 &&& (1023 : Int32)), vi (r8 &&& (1023 : Int32)), vn, vn, vn, vn, vn, vn, vn]) d0_101 (by decide) rfl <| Runs.iload d0_103 rfl <| Runs.iloadN d0_105 rfl <| ?_
    refine dvz_el hf fun hz10 hf => ?_
    refine Runs.irem d0_106 hz10 <| Runs.istore (P' := [vr sa, vi i1, vi i2, vr C.2.2.1, vi i4, vi (r2 &&& (15 : Int32)), vi (r4 &&& (1023 : Int32)), vi (r6 &&& (1023 : Int32)), vi (r8 &&& (1023 : Int32)), vi ((r4 &&& (1023 : Int32)) % i1), vn, vn, vn, vn, vn, vn]) d0_107 (by decide) rfl <| Runs.iload d0_109 rfl <| Runs.iloadN d0_111 rfl <| ?_
    refine dvz_el hf fun hz11 hf => ?_
    refine Runs.irem d0_112 hz11 <| Runs.istore (P' := [vr sa, vi i1, vi i2, vr C.2.2.1, vi i4, vi (r2 &&& (15 : Int32)), vi (r4 &&& (1023 : Int32)), vi (r6 &&& (1023 : Int32)), vi (r8 &&& (1023 : Int32)), vi ((r4 &&& (1023 : Int32)) % i1), vi ((r6 &&& (1023 : Int32)) % i1), vn, vn, vn, vn, vn]) d0_113 (by decide) rfl <| Runs.aloadN d0_115 rfl <| Runs.iload d0_116 rfl <| ?_
    refine bind_el hf fun r12 hg13 hf => ?_
    refine Runs.callV (N := B6) (W := 0) (as := [.int ((r6 &&& (1023 : Int32)) % i1)]) (S' := []) d0_118 w49 w50 w51 w52 cw6 ar6 rk0_6_0 (by decide) rfl rfl (X_sent_pay hg13) <| ans1 <| Runs.istore (P' := [vr sa, vi i1, vi i2, vr C.2.2.1, vi i4, vi (r2 &&& (15 : Int32)), vi (r4 &&& (1023 : Int32)), vi (r6 &&& (1023 : Int32)), vi (r8 &&& (1023 : Int32)), vi ((r4 &&& (1023 : Int32)) % i1), vi ((r6 &&& (1023 : Int32)) % i1), vi r12, vn, vn, vn, vn]) d0_121 (by decide) rfl <| Runs.iconst d0_123 ci_1 <| Runs.iload d0_124 rfl <| Runs.bipush d0_126 cb_7 <| Runs.iand d0_128 <| Runs.iload d0_129 rfl <| Runs.iconst d0_131 ci_1 <| ?_
    refine ite_el hf (fun hc14 hf => ?_) (fun hc14 hf => ?_)
    · refine Runs.icN d0_132 (tlt hc14).2.1 <| ?_
      exact Runs.iconst d0_135 ci_1 <| Runs.goto (pc' := 141) d0_136 (by decide) <| Runs.forget [true, true, true, true, true, true, false, true, true, true, true, false, false, false, false, false] rfl <| L_law_b141_p hs k43 hk43 ob i1 i2 i4 (r2 &&& (15 : Int32)) (r6 &&& (1023 : Int32)) (r8 &&& (1023 : Int32)) ((r4 &&& (1023 : Int32)) % i1) ((r6 &&& (1023 : Int32)) % i1) (1 : Int32) ((r8 &&& (1023 : Int32)) &&& (7 : Int32)) (1 : Int32) hf
    · refine Runs.icY (pc' := 139) d0_132 (flt hc14).2.1 (by decide) <| ?_
      exact Runs.iload d0_139 rfl <| Runs.forget [true, true, true, true, true, true, false, true, true, true, true, false, false, false, false, false] rfl <| L_law_b141_p hs k43 hk43 ob i1 i2 i4 (r2 &&& (15 : Int32)) (r6 &&& (1023 : Int32)) (r8 &&& (1023 : Int32)) ((r4 &&& (1023 : Int32)) % i1) ((r6 &&& (1023 : Int32)) % i1) (1 : Int32) ((r8 &&& (1023 : Int32)) &&& (7 : Int32)) r12 hf
  · refine Runs.icY (pc' := 393) d0_47 (flt hc1).2.1 (by decide) <| ?_
    obtain rfl := Option.some.inj hf
    exact Runs.iconst d0_393 ci_1 <| Runs.retZ (y := (1 : Int32)) d0_394 rfl ⟨by decide, by decide⟩ rfl rfl
theorem L_law_l43_p {C : Ctx} {sa : Nat} {z : Int32} {f : Int32 → Int32} (hs : ScrF C sa z f) {res : Int32} {NF : Nat} (n : Nat) (ob : Rec) (i1 : Int32) (i2 : Int32) (i4 : Int32) (hf : L_law_l43 NF z f n ob i1 i2 i4 = some res) : Runs C B0 10 2659 43 [vr sa, vi i1, vi i2, vr C.2.2.1, vi i4, vn, vn, vn, vn, vn, vn, vn, vn, vn, vn, vn] [] (C.2.2.1 + 1 + 9, (C.2.2.1, 9, ob) :: []) (fun v _ => v = (some (.int res))) := by
  induction n generalizing ob i1 i2 i4 with
  | zero => cases (show (none : Option (Int32)) = some res from hf)
  | succ n ih => exact L_law_w43_p hs (L_law_l43 NF z f n) (fun ob i1 i2 i4 h => ih _ _ _ _ h) ob i1 i2 i4 hf
def L_law (NF : Nat) (z : Int32) (f : Int32 → Int32) : Option (Int32) :=
  (L_cell z f (0 : Int32)).bind fun r61 =>
  (L_cell z f (1 : Int32)).bind fun r63 =>
  (X_init ((2 : Int32) + (r61 &&& (3 : Int32))) ((2 : Int32) + (r63 &&& (3 : Int32)))).bind fun q65 =>
  (L_holds NF q65 ((2 : Int32) + (r61 &&& (3 : Int32)))).bind fun r67 =>
  if r67 = (0 : Int32) then
    some (0 : Int32)
  else
    L_law_l43 NF z f NF q65 ((2 : Int32) + (r61 &&& (3 : Int32))) ((2 : Int32) + (r63 &&& (3 : Int32))) (2 : Int32)
set_option maxRecDepth 65536 in
set_option maxHeartbeats 4000000 in
theorem L_law_p {C : Ctx} {sa : Nat} {z : Int32} {f : Int32 → Int32} (hs : ScrF C sa z f) {res : Int32} {NF : Nat} (hf : L_law NF z f = some res) : Runs C B0 0 0 0 [vr sa, vn, vn, vn, vn, vn, vn, vn, vn, vn, vn, vn, vn, vn, vn, vn] [] (C.2.2.1, []) (fun v _ => v = (some (.int res))) := by
  delta L_law at hf
  refine Runs.iconst d0_0 ci_2 <| Runs.aloadN d0_1 rfl <| Runs.iconst d0_2 ci_0 <| ?_
  refine bind_el hf fun r61 hg62 hf => ?_
  refine Runs.callS (N := B1) (W := 1) (as := [.ref sa, .int (0 : Int32)]) (S' := [.int (2 : Int32)]) d0_3 w0 w1 cw1 ar1 rk0_1_1 (by decide) rfl rfl (L_cell_pay hs hg62) <| ans1 <| Runs.iconst d0_6 ci_3 <| Runs.iand d0_7 <| Runs.iadd d0_8 <| Runs.istoreN (P' := [vr sa, vi ((2 : Int32) + (r61 &&& (3 : Int32))), vn, vn, vn, vn, vn, vn, vn, vn, vn, vn, vn, vn, vn, vn]) d0_9 (by decide) rfl <| Runs.iconst d0_10 ci_2 <| Runs.aloadN d0_11 rfl <| Runs.iconst d0_12 ci_1 <| ?_
  refine bind_el hf fun r63 hg64 hf => ?_
  refine Runs.callS (N := B1) (W := 1) (as := [.ref sa, .int (1 : Int32)]) (S' := [.int (2 : Int32)]) d0_13 w0 w1 cw1 ar1 rk0_1_1 (by decide) rfl rfl (L_cell_pay hs hg64) <| ans1 <| Runs.iconst d0_16 ci_3 <| Runs.iand d0_17 <| Runs.iadd d0_18 <| Runs.istoreN (P' := [vr sa, vi ((2 : Int32) + (r61 &&& (3 : Int32))), vi ((2 : Int32) + (r63 &&& (3 : Int32))), vn, vn, vn, vn, vn, vn, vn, vn, vn, vn, vn, vn, vn]) d0_19 (by decide) rfl <| Runs.newK (k' := 1) (n' := 11) d0_20 w4 ⟨by decide, by decide⟩ rfl rfl (by intro x hx; cases hx) <| Runs.dup d0_23 rfl <| Runs.iloadN d0_24 rfl <| Runs.iloadN d0_25 rfl <| ?_
  refine bind_el hf fun q65 hg66 hf => ?_
  refine Runs.callI (N := B2) (k' := 10) (n' := 2659) (W := 1) (as := [.int ((2 : Int32) + (r61 &&& (3 : Int32))), .int ((2 : Int32) + (r63 &&& (3 : Int32)))]) (S' := [.ref C.2.2.1]) d0_26 rfl rfl w7 w8 cw2 ar2 (by decide) rfl rfl rfl rfl (X_init_pay hg66) <| ans0 <| Runs.astoreN (P' := [vr sa, vi ((2 : Int32) + (r61 &&& (3 : Int32))), vi ((2 : Int32) + (r63 &&& (3 : Int32))), vr C.2.2.1, vn, vn, vn, vn, vn, vn, vn, vn, vn, vn, vn, vn]) d0_29 (by decide) rfl <| Runs.aloadN d0_30 rfl <| Runs.iloadN d0_31 rfl <| ?_
  refine bind_el hf fun r67 hg68 hf => ?_
  refine Runs.callS (N := B3) (W := 0) (as := [.ref C.2.2.1, .int ((2 : Int32) + (r61 &&& (3 : Int32)))]) (S' := []) d0_32 w37 w38 cw3 ar3 rk0_3_0 (by decide) rfl rfl (L_holds_pay hg68) <| ans1 <| ?_
  refine ite_el hf (fun hc69 hf => ?_) (fun hc69 hf => ?_)
  · refine Runs.ifN d0_35 (teq hc69).2 <| ?_
    obtain rfl := Option.some.inj hf
    exact Runs.iconst d0_38 ci_0 <| Runs.retZ (y := (0 : Int32)) d0_39 rfl ⟨by decide, by decide⟩ rfl rfl
  · refine Runs.ifY (pc' := 40) d0_35 (feq hc69).2 (by decide) <| ?_
    exact Runs.iconst d0_40 ci_2 <| Runs.istore (P' := [vr sa, vi ((2 : Int32) + (r61 &&& (3 : Int32))), vi ((2 : Int32) + (r63 &&& (3 : Int32))), vr C.2.2.1, vi (2 : Int32), vn, vn, vn, vn, vn, vn, vn, vn, vn, vn, vn]) d0_41 (by decide) rfl <| L_law_l43_p hs NF q65 ((2 : Int32) + (r61 &&& (3 : Int32))) ((2 : Int32) + (r63 &&& (3 : Int32))) (2 : Int32) hf
theorem L_law_pay {C : Ctx} {sa : Nat} {z : Int32} {f : Int32 → Int32} (hs : ScrF C sa z f) {res : Int32} {NF : Nat} (hf : L_law NF z f = some res) : Pays C B0 [.ref sa] (C.2.2.1, []) (fun v _ => v = (some (.int res))) :=
  Pays.of pnL (Nat.le_of_ble_eq_true rfl) (P := [vr sa, vn, vn, vn, vn, vn, vn, vn, vn, vn, vn, vn, vn, vn, vn, vn]) 15 rfl (L_law_p hs hf)
--OWED--
theorem gI_sI (ob : Rec) (k j : Nat) (v : Int32) : gI (sI ob k v) j = if j = k then v else gI ob j := rfl
theorem gI_sA (ob : Rec) (k j : Nat) (i v : Int32) : gI (sA ob k i v) j = gI ob j := rfl
theorem gI_sJ (ob : Rec) (k j : Nat) (i : Int32) (v : Int64) : gI (sJ ob k i v) j = gI ob j := rfl
theorem gA_sI (ob : Rec) (k j : Nat) (v x : Int32) : gA (sI ob k v) j x = gA ob j x := rfl
theorem gA_sA (ob : Rec) (k j : Nat) (i v x : Int32) : gA (sA ob k i v) j x = if j = k ∧ x = i then v else gA ob j x := rfl
theorem gA_sJ (ob : Rec) (k j : Nat) (i x : Int32) (v : Int64) : gA (sJ ob k i v) j x = gA ob j x := rfl
theorem gJ_sI (ob : Rec) (k j : Nat) (v x : Int32) : gJ (sI ob k v) j x = gJ ob j x := rfl
theorem gJ_sA (ob : Rec) (k j : Nat) (i v x : Int32) : gJ (sA ob k i v) j x = gJ ob j x := rfl
theorem gJ_sJ (ob : Rec) (k j : Nat) (i x : Int32) (v : Int64) : gJ (sJ ob k i v) j x = if j = k ∧ x = i then v else gJ ob j x := rfl
theorem gI_z (k : Nat) : gI zrec k = 0 := rfl
theorem gA_z (k : Nat) (i : Int32) : gA zrec k i = 0 := rfl
theorem gJ_z (k : Nat) (i : Int32) : gJ zrec k i = 0 := rfl
theorem chk_ok {γ : Type} {n i : Int32} {A : Option γ} (h : 0 ≤ i.toInt ∧ i.toInt < n.toInt) : chk n i A = A := by
  have h0 : ¬ i < 0 := by rw [Int32.lt_iff_toInt_lt]; show ¬ i.toInt < 0; omega
  have h1 : i < n := by rw [Int32.lt_iff_toInt_lt]; exact h.2
  unfold chk; rw [if_neg h0, if_pos h1]
theorem lt_i {x y : Int32} : x < y ↔ x.toInt < y.toInt := Int32.lt_iff_toInt_lt
theorem le_i {x y : Int32} : x ≤ y ↔ x.toInt ≤ y.toInt := Int32.le_iff_toInt_le
theorem eq_i32 {x y : Int32} : x = y ↔ x.toInt = y.toInt := Int32.toInt_inj.symm
theorem bm_id {n : Int} (h : -2147483648 ≤ n ∧ n < 2147483648) : n.bmod (2 ^ 32) = n := Int.bmod_eq_of_le (by omega) (by omega)
theorem ad {x y : Int32} (h : -2147483648 ≤ x.toInt + y.toInt ∧ x.toInt + y.toInt < 2147483648) : (x + y).toInt = x.toInt + y.toInt := by rw [Int32.toInt_add, bm_id h]
theorem sb {x y : Int32} (h : -2147483648 ≤ x.toInt - y.toInt ∧ x.toInt - y.toInt < 2147483648) : (x - y).toInt = x.toInt - y.toInt := by rw [Int32.toInt_sub, bm_id h]
theorem ml {x y : Int32} (h : -2147483648 ≤ x.toInt * y.toInt ∧ x.toInt * y.toInt < 2147483648) : (x * y).toInt = x.toInt * y.toInt := by rw [Int32.toInt_mul, bm_id h]
theorem bind2_some {α β γ : Type} (a : α) (b : β) (f : α → β → Option γ) : bind2 (some (a, b)) f = f a b := rfl
theorem and_b (x m : Int32) (k : Nat) (hm : m.toBitVec.toNat = k) (hk : k < 2147483648) : 0 ≤ (x &&& m).toInt ∧ (x &&& m).toInt ≤ (k : Int) := by
  have h1 : (x &&& m).toBitVec.toNat = x.toBitVec.toNat &&& m.toBitVec.toNat := by rw [Int32.toBitVec_and, BitVec.toNat_and]
  have h2 : (x &&& m).toBitVec.toNat ≤ k := by rw [h1, hm]; exact Nat.and_le_right
  have h3 : (x &&& m).toInt = ((x &&& m).toBitVec.toNat : Int) := by
    show (x &&& m).toBitVec.toInt = _
    exact BitVec.toInt_eq_toNat_of_lt (by omega)
  rw [h3]; omega
theorem mem8 (x : Int32) : (x &&& 7) ∈ ([0, 1, 2, 3, 4, 5, 6, 7] : List Int32) := by
  have h := and_b x 7 7 rfl (by omega)
  simp only [List.mem_cons, eq_i32, Int32.reduceToInt, List.not_mem_nil, or_false]
  omega
theorem mem2 (x : Int32) : (x &&& 1) ∈ ([0, 1] : List Int32) := by
  have h := and_b x 1 1 rfl (by omega)
  simp only [List.mem_cons, eq_i32, Int32.reduceToInt, List.not_mem_nil, or_false]
  omega
theorem dv {x y : Int32} (hx : 0 ≤ x.toInt) (hy : 0 < y.toInt) : (x / y).toInt = x.toInt / y.toInt := by
  rw [Int32.toInt_div, Int.tdiv_eq_ediv_of_nonneg hx]
  have h1 : x.toInt / y.toInt ≤ x.toInt := Int.ediv_le_self _ hx
  have h2 : 0 ≤ x.toInt / y.toInt := Int.ediv_nonneg hx (by omega)
  have h3 := x.toInt_lt
  exact Int.bmod_eq_of_le (by omega) (by omega)
theorem md {x y : Int32} (hx : 0 ≤ x.toInt) (_ : 0 < y.toInt) : (x % y).toInt = x.toInt % y.toInt := by
  rw [Int32.toInt_mod, Int.tmod_eq_emod_of_nonneg hx]
def n32 (n : Nat) : Int32 := Int32.ofInt (n : Int)
theorem nt (n : Nat) (h : n < 100000) : (n32 n).toInt = n := by
  unfold n32; rw [Int32.toInt_ofInt]; exact bm_id (by omega)
theorem n32_t (x : Int32) (h : 0 ≤ x.toInt) : n32 x.toInt.toNat = x := by
  unfold n32; rw [Int.toNat_of_nonneg h, Int32.ofInt_toInt]
def cN (f : Nat → Bool) : Nat → Nat
  | 0 => 0
  | n + 1 => cN f n + (if f n then 1 else 0)
theorem cN_le {f g : Nat → Bool} : ∀ n, (∀ i, i < n → f i = true → g i = true) → cN f n ≤ cN g n
  | 0, _ => Nat.le_refl 0
  | n + 1, h => by
    have h1 := cN_le n (fun i hi => h i (by omega))
    have h2 := h n (by omega)
    show cN f n + _ ≤ cN g n + _
    cases hf : f n
    · simp; omega
    · rw [h2 hf]; simp; omega
theorem cN_eq {f g : Nat → Bool} (n : Nat) (h : ∀ i, i < n → f i = g i) : cN f n = cN g n :=
  Nat.le_antisymm (cN_le n (fun i hi e => (h i hi) ▸ e)) (cN_le n (fun i hi e => (h i hi).symm ▸ e))
theorem cN_set {f g : Nat → Bool} {j : Nat} (fj : f j = false) (gj : g j = true) : ∀ n, j < n → (∀ i, i < n → i ≠ j → g i = f i) → cN g n = cN f n + 1
  | 0, h, _ => absurd h (by omega)
  | n + 1, h, e => by
    show cN g n + _ = cN f n + _ + 1
    by_cases c : j = n
    · subst c
      rw [cN_eq j (fun i hi => e i (by omega) (by omega)), fj, gj]; simp
    · rw [cN_set fj gj n (by omega) (fun i hi => e i (by omega)), e n (by omega) (fun h => c h.symm)]; omega
theorem cN_lt {f g : Nat → Bool} {j : Nat} (n : Nat) (hj : j < n) (fj : f j = false) (gj : g j = true) (h : ∀ i, i < n → f i = true → g i = true) : cN f n + 1 ≤ cN g n := by
  have := cN_set (f := f) (g := fun i => if i = j then true else f i) fj (by simp) n hj (fun i _ c => by simp [c])
  rw [← this]
  apply cN_le
  intro i hi e
  by_cases c : i = j
  · rw [c]; exact gj
  · simp only [c, if_false] at e; exact h i hi e
theorem cN_full {f : Nat → Bool} : ∀ n m, m ≤ n → (∀ i, i < m → f i = true) → m ≤ cN f n
  | 0, m, h, _ => by omega
  | n + 1, m, h, e => by
    show m ≤ cN f n + _
    by_cases c : m ≤ n
    · have := cN_full n m c e; omega
    · have := cN_full n n (Nat.le_refl n) (fun i hi => e i (by omega))
      rw [e n (by omega)]; simp; omega
abbrev In (n : Int) (x : Int32) : Prop := 0 ≤ x.toInt ∧ x.toInt < n
theorem neg_i {x : Int32} : x < 0 ↔ x.toInt < 0 := by rw [lt_i]; exact Iff.rfl
theorem nneg {x : Int32} (h : 0 ≤ x.toInt) : ¬ x < 0 := by rw [neg_i]; omega
theorem nneg' {x : Int32} (h : ¬ x < 0) : 0 ≤ x.toInt := by rw [neg_i] at h; omega
theorem s1 {i : Int32} (h : 0 ≤ i.toInt ∧ i.toInt < 100000) : (i + 1).toInt = i.toInt + 1 := by
  rw [ad (by show -2147483648 ≤ i.toInt + 1 ∧ i.toInt + 1 < 2147483648; omega)]; rfl
theorem ckn {γ : Type} {n : Int32} {m : Int} {i : Int32} {A : Option γ} (hm : n.toInt = m) (h : In m i) : chk n i A = A := chk_ok (by rw [hm]; exact h)
theorem ltn {x y : Int32} {m : Int} (hm : y.toInt = m) (h : x.toInt < m) : x < y := by rw [lt_i, hm]; exact h
theorem nltn {x y : Int32} {m : Int} (hm : y.toInt = m) (h : ¬ x.toInt < m) : ¬ x < y := by rw [lt_i, hm]; exact h
theorem cN_b (f : Nat → Bool) : ∀ n, cN f n ≤ n
  | 0 => Nat.le_refl 0
  | n + 1 => by
    have := cN_b f n
    show cN f n + _ ≤ n + 1
    split <;> omega
theorem cN_pos {f : Nat → Bool} {j : Nat} (n : Nat) (hj : j < n) (fj : f j = true) : 1 ≤ cN f n := by
  have z : ∀ n, cN (fun _ => false) n = 0 := fun n => by induction n with
    | zero => rfl
    | succ n ih => show cN (fun _ => false) n + _ = 0; rw [ih]; rfl
  have := cN_lt (f := fun _ => false) (g := f) n hj rfl fj (fun _ _ e => by simp at e)
  rw [z] at this; exact this
theorem ni {i n : Nat} (h : i < n) (hn : n ≤ 1000) : In (n : Int) (n32 i) := by
  rw [In, nt i (by omega)]; omega
theorem n32_inj {i j : Nat} (hi : i < 1000) (hj : j < 1000) (e : n32 i = n32 j) : i = j := by
  have := congrArg Int32.toInt e
  rw [nt i (by omega), nt j (by omega)] at this; omega
theorem n32_ne {i j : Nat} (hi : i < 1000) (hj : j < 1000) (h : ¬ i = j) : ¬ n32 i = n32 j := fun e => h (n32_inj hi hj e)
theorem n32_s {i : Nat} (hi : i < 1000) : n32 i + 1 = n32 (i + 1) := eq_i32.mpr (by rw [s1 (by rw [nt i (by omega)]; omega), nt i (by omega), nt (i + 1) (by omega)]; omega)
theorem n32_lt {i j : Nat} (hi : i < 1000) (hj : j < 1000) : n32 i < n32 j ↔ i < j := by rw [lt_i, nt i (by omega), nt j (by omega)]; omega
theorem n32_b {i : Nat} (hi : i < 1000) : 0 ≤ (n32 i).toInt ∧ (n32 i).toInt = i := by rw [nt i (by omega)]; omega
theorem ck32 {γ : Type} {n : Int32} {m i : Nat} {A : Option γ} (hm : n.toInt = m) (h : i < m) (hi : i < 1000) : chk n (n32 i) A = A := chk_ok (by rw [hm, nt i (by omega)]; omega)
theorem n32_add {i j : Nat} (hi : i < 1000) (hj : j < 1000) : n32 i + n32 j = n32 (i + j) := eq_i32.mpr (by rw [ad (by rw [nt i (by omega), nt j (by omega)]; omega), nt i (by omega), nt j (by omega), nt (i + j) (by omega)]; omega)
theorem n32_p {i : Nat} (hi : i < 1000) : n32 (i + 1) - 1 = n32 i := eq_i32.mpr (by rw [sb (by rw [nt (i + 1) (by omega)]; show -2147483648 ≤ ((i + 1 : Nat) : Int) - 1 ∧ ((i + 1 : Nat) : Int) - 1 < 2147483648; omega), nt (i + 1) (by omega), nt i (by omega)]; show ((i + 1 : Nat) : Int) - 1 = _; omega)
theorem n32_mul {i j : Nat} (hi : i < 1000) (hj : j < 100) : n32 i * n32 j = n32 (i * j) := by
  have b : (i * j : Nat) < 100000 := by
    have : i * j ≤ 999 * 99 := Nat.mul_le_mul (by omega) (by omega)
    omega
  refine eq_i32.mpr ?_
  have e : (n32 i).toInt * (n32 j).toInt = ((i * j : Nat) : Int) := by rw [nt i (by omega), nt j (by omega)]; exact (Int.natCast_mul i j).symm
  rw [ml (by rw [e]; omega), e, nt _ b]
theorem n32_d {n : Nat} (h : n < 1000) : n32 (n + 1) + (-1) = n32 n := by
  rw [eq_i32, ad (by rw [nt (n + 1) (by omega)]; show -2147483648 ≤ ((n + 1 : Nat) : Int) + (-1) ∧ ((n + 1 : Nat) : Int) + (-1) < 2147483648; omega), nt (n + 1) (by omega), nt n (by omega)]
  show ((n + 1 : Nat) : Int) + (-1) = n
  omega
theorem n32_e (x : Int32) (h : 0 ≤ x.toInt) : ∃ n : Nat, x = n32 n ∧ (n : Int) = x.toInt := ⟨x.toInt.toNat, (n32_t x h).symm, by omega⟩
abbrev Fn : Type := Int32 → Int32
def up (f : Fn) (i v : Int32) : Fn := fun x => if x = i then v else f x
theorem up_s (f : Fn) (i v : Int32) : up f i v i = v := if_pos rfl
theorem up_o {f : Fn} {i v x : Int32} (h : ¬ x = i) : up f i v x = f x := if_neg h
theorem gA_u (ob : Rec) (k : Nat) (i v : Int32) : gA (sA ob k i v) k = up (gA ob k) i v := funext fun x => by
  rw [gA_sA]; unfold up
  by_cases h : x = i
  · rw [if_pos ⟨rfl, h⟩, if_pos h]
  · rw [if_neg (fun e => h e.2), if_neg h]
theorem gA_n (ob : Rec) {k j : Nat} (h : ¬ j = k) (i v : Int32) : gA (sA ob k i v) j = gA ob j := funext fun x => by rw [gA_sA, if_neg (fun e => h e.1)]
def i2 (x o : Nat) : Int32 := n32 (x * 8 + o)
def i3 (x o s : Nat) : Int32 := n32 (x * 64 + o * 8 + s - 1)
def i5 (o s q : Nat) : Int32 := n32 ((o * 8 + s - 1) * 8 + q)
def i6 (p q o : Nat) : Int32 := n32 (p * 64 + q * 8 + o)
def i7 (x i : Nat) : Int32 := n32 (x * 64 + i)
theorem i1_ne {x y : Nat} (hx : x < 8) (hy : y < 8) (h : ¬ x = y) : ¬ n32 x = n32 y := n32_ne (by omega) (by omega) h
theorem i2_ne {x o y u : Nat} (hx : x < 8) (ho : o < 8) (hy : y < 8) (hu : u < 8) (h : ¬ (x = y ∧ o = u)) : ¬ i2 x o = i2 y u := n32_ne (by omega) (by omega) (by omega)
theorem i3_ne {x o s y u t : Nat} (hx : x < 8) (ho : o < 8) (hs : 1 ≤ s ∧ s ≤ 8) (hy : y < 8) (hu : u < 8) (ht : 1 ≤ t ∧ t ≤ 8) (h : ¬ (x = y ∧ o = u ∧ s = t)) : ¬ i3 x o s = i3 y u t := n32_ne (by omega) (by omega) (by omega)
theorem i5_ne {o s q u t w : Nat} (ho : o < 8) (hs : 1 ≤ s ∧ s ≤ 8) (hq : q < 8) (hu : u < 8) (ht : 1 ≤ t ∧ t ≤ 8) (hw : w < 8) (h : ¬ (o = u ∧ s = t ∧ q = w)) : ¬ i5 o s q = i5 u t w := n32_ne (by omega) (by omega) (by omega)
theorem i6_ne {x o s y u t : Nat} (hx : x < 8) (ho : o < 8) (hs : s < 8) (hy : y < 8) (hu : u < 8) (ht : t < 8) (h : ¬ (x = y ∧ o = u ∧ s = t)) : ¬ i6 x o s = i6 y u t := n32_ne (by omega) (by omega) (by omega)
theorem i7_ne {x i y j : Nat} (hx : x < 8) (hi : i < 64) (hy : y < 8) (hj : j < 64) (h : ¬ (x = y ∧ i = j)) : ¬ i7 x i = i7 y j := n32_ne (by omega) (by omega) (by omega)
def sN (a : Fn) (o : Nat) : Nat := (a (n32 o)).toInt.toNat
def dN (a : Fn) (x o : Nat) : Nat := (a (i2 x o)).toInt.toNat
def tS (a : Fn) (x o s : Nat) : Int32 := a (i3 x o s)
def stN (a : Fn) (o s q : Nat) : Int := (a (i5 o s q)).toInt
def pN (a : Fn) (o s q : Nat) : Nat := (a (i5 o s q)).toInt.toNat
def kwN (a : Fn) (p q o : Nat) : Nat := (a (i6 p q o)).toInt.toNat
def cd (a : Fn) (x i : Nat) : Nat := (a (i7 x i)).toInt.toNat
def cb (a : Fn) (x i o : Nat) : Nat := cN (fun j => decide (cd a x j / 16 = o)) i
def sm (f : Nat → Nat) : Nat → Nat
  | 0 => 0
  | n + 1 => sm f n + f n
theorem sm_c {f g : Nat → Nat} : ∀ n, (∀ i, i < n → f i = g i) → sm f n = sm g n
  | 0, _ => rfl
  | n + 1, h => by
    show sm f n + f n = sm g n + g n
    rw [sm_c n (fun i hi => h i (by omega)), h n (by omega)]
theorem sm_u {f g : Nat → Nat} {j : Nat} : ∀ n, j < n → (∀ i, i < n → ¬ i = j → g i = f i) → sm g n + f j = sm f n + g j
  | 0, h, _ => absurd h (by omega)
  | n + 1, h, e => by
    show sm g n + g n + f j = sm f n + f n + g j
    by_cases c : j = n
    · subst c
      rw [sm_c j (fun i hi => e i (by omega) (by omega))]; omega
    · have := sm_u n (by omega) (fun i hi => e i (by omega))
      rw [e n (by omega) (fun h => c h.symm)]; omega
theorem sm_b {f : Nat → Nat} {c : Nat} : ∀ n, (∀ i, i < n → f i ≤ c) → sm f n ≤ n * c
  | 0, _ => by show 0 ≤ 0 * c; omega
  | n + 1, h => by
    show sm f n + f n ≤ (n + 1) * c
    have h1 := sm_b n (fun i hi => h i (by omega))
    have h2 := h n (by omega)
    rw [Nat.add_mul, Nat.one_mul]; omega
theorem sm_lt {f : Nat → Nat} {c j : Nat} {n : Nat} (hj : j < n) (h : ∀ i, i < n → f i ≤ c) (h' : f j < c) : sm f n < n * c := by
  have h1 := sm_u (f := f) (g := fun i => if i = j then c else f i) n hj (fun i _ e => by simp [e])
  have h2 := sm_b (f := fun i => if i = j then c else f i) (c := c) n (fun i hi => by
    by_cases e : i = j
    · simp [e]
    · simp [e]; exact h i hi)
  simp only [if_true] at h1
  omega
/-- what holds of the nine arrays -/
abbrev DA (n cap : Nat) (a0 a1 a2 a3 a4 a5 a6 a7 a8 : Fn) : Prop := (∀ o, o < n → a0 (n32 o) = n32 (sN a0 o) ∧ sN a0 o ≤ cap) ∧ (∀ p, p < n → a1 (n32 p) = 0 ∨ a1 (n32 p) = 1) ∧ (∀ x o, x < n → o < n → a2 (i2 x o) = n32 (dN a2 x o) ∧ dN a2 x o ≤ sN a0 o) ∧ (∀ x, x < n → dN a2 x x = sN a0 x) ∧ (∀ x o s, x < n → o < n → 1 ≤ s → s ≤ 8 → (tS a3 x o s = 0 ∨ tS a3 x o s = 1 ∨ tS a3 x o s = 2 ∨ tS a3 x o s = 3) ∧ ((tS a3 x o s = 2 ∨ tS a3 x o s = 3) ↔ s ≤ dN a2 x o) ∧ (sN a0 o < s → tS a3 x o s = 0)) ∧ (∀ o s q, o < n → 1 ≤ s → s ≤ 8 → q < n → a5 (i5 o s q) = n32 (pN a5 o s q) ∧ pN a5 o s q ≤ 3 ∧ (sN a0 o < s → pN a5 o s q = 0)) ∧ (∀ p q o, p < n → q < n → o < n → a6 (i6 p q o) = n32 (kwN a6 p q o) ∧ kwN a6 p q o ≤ dN a2 q o ∧ kwN a6 p p o = dN a2 p o) ∧ (∀ x, x < n → a8 (n32 x) = n32 (sN a8 x) ∧ sN a8 x = sm (dN a2 x) n ∧ ∀ o, o < n → cb a7 x (sN a8 x) o = dN a2 x o) ∧ (∀ x i, x < n → i < sN a8 x → a7 (i7 x i) = n32 (cd a7 x i) ∧ cd a7 x i / 16 < n ∧ cd a7 x i % 16 = 1 + cb a7 x i (cd a7 x i / 16) ∧ cd a7 x i % 16 ≤ dN a2 x (cd a7 x i / 16) ∧ ∀ o2, o2 < n → ¬ o2 = cd a7 x i / 16 → stN a4 (cd a7 x i / 16) (cd a7 x i % 16) o2 ≤ cb a7 x i o2) ∧ (∀ q o s, q < n → o < n → 1 ≤ s → s ≤ 8 → tS a3 q o s = 3 → ∀ r, r < n → a1 (n32 r) = 0 → s ≤ dN a2 r o)
theorem DA.sS {n cap : Nat} {a0 a1 a2 a3 a4 a5 a6 a7 a8 : Fn} (h : DA n cap a0 a1 a2 a3 a4 a5 a6 a7 a8) : ∀ o, o < n → a0 (n32 o) = n32 (sN a0 o) ∧ sN a0 o ≤ cap := h.1
theorem DA.sC {n cap : Nat} {a0 a1 a2 a3 a4 a5 a6 a7 a8 : Fn} (h : DA n cap a0 a1 a2 a3 a4 a5 a6 a7 a8) : ∀ p, p < n → a1 (n32 p) = 0 ∨ a1 (n32 p) = 1 := h.2.1
theorem DA.sD {n cap : Nat} {a0 a1 a2 a3 a4 a5 a6 a7 a8 : Fn} (h : DA n cap a0 a1 a2 a3 a4 a5 a6 a7 a8) : ∀ x o, x < n → o < n → a2 (i2 x o) = n32 (dN a2 x o) ∧ dN a2 x o ≤ sN a0 o := h.2.2.1
theorem DA.sO {n cap : Nat} {a0 a1 a2 a3 a4 a5 a6 a7 a8 : Fn} (h : DA n cap a0 a1 a2 a3 a4 a5 a6 a7 a8) : ∀ x, x < n → dN a2 x x = sN a0 x := h.2.2.2.1
theorem DA.sT {n cap : Nat} {a0 a1 a2 a3 a4 a5 a6 a7 a8 : Fn} (h : DA n cap a0 a1 a2 a3 a4 a5 a6 a7 a8) : ∀ x o s, x < n → o < n → 1 ≤ s → s ≤ 8 → (tS a3 x o s = 0 ∨ tS a3 x o s = 1 ∨ tS a3 x o s = 2 ∨ tS a3 x o s = 3) ∧ ((tS a3 x o s = 2 ∨ tS a3 x o s = 3) ↔ s ≤ dN a2 x o) ∧ (sN a0 o < s → tS a3 x o s = 0) := h.2.2.2.2.1
theorem DA.sP {n cap : Nat} {a0 a1 a2 a3 a4 a5 a6 a7 a8 : Fn} (h : DA n cap a0 a1 a2 a3 a4 a5 a6 a7 a8) : ∀ o s q, o < n → 1 ≤ s → s ≤ 8 → q < n → a5 (i5 o s q) = n32 (pN a5 o s q) ∧ pN a5 o s q ≤ 3 ∧ (sN a0 o < s → pN a5 o s q = 0) := h.2.2.2.2.2.1
theorem DA.sK {n cap : Nat} {a0 a1 a2 a3 a4 a5 a6 a7 a8 : Fn} (h : DA n cap a0 a1 a2 a3 a4 a5 a6 a7 a8) : ∀ p q o, p < n → q < n → o < n → a6 (i6 p q o) = n32 (kwN a6 p q o) ∧ kwN a6 p q o ≤ dN a2 q o ∧ kwN a6 p p o = dN a2 p o := h.2.2.2.2.2.2.1
theorem DA.sL {n cap : Nat} {a0 a1 a2 a3 a4 a5 a6 a7 a8 : Fn} (h : DA n cap a0 a1 a2 a3 a4 a5 a6 a7 a8) : ∀ x, x < n → a8 (n32 x) = n32 (sN a8 x) ∧ sN a8 x = sm (dN a2 x) n ∧ ∀ o, o < n → cb a7 x (sN a8 x) o = dN a2 x o := h.2.2.2.2.2.2.2.1
theorem DA.sE {n cap : Nat} {a0 a1 a2 a3 a4 a5 a6 a7 a8 : Fn} (h : DA n cap a0 a1 a2 a3 a4 a5 a6 a7 a8) : ∀ x i, x < n → i < sN a8 x → a7 (i7 x i) = n32 (cd a7 x i) ∧ cd a7 x i / 16 < n ∧ cd a7 x i % 16 = 1 + cb a7 x i (cd a7 x i / 16) ∧ cd a7 x i % 16 ≤ dN a2 x (cd a7 x i / 16) ∧ ∀ o2, o2 < n → ¬ o2 = cd a7 x i / 16 → stN a4 (cd a7 x i / 16) (cd a7 x i % 16) o2 ≤ cb a7 x i o2 := h.2.2.2.2.2.2.2.2.1
theorem DA.sR {n cap : Nat} {a0 a1 a2 a3 a4 a5 a6 a7 a8 : Fn} (h : DA n cap a0 a1 a2 a3 a4 a5 a6 a7 a8) : ∀ q o s, q < n → o < n → 1 ≤ s → s ≤ 8 → tS a3 q o s = 3 → ∀ r, r < n → a1 (n32 r) = 0 → s ≤ dN a2 r o := h.2.2.2.2.2.2.2.2.2
theorem DA_len {n cap : Nat} {a0 a1 a2 a3 a4 a5 a6 a7 a8 : Fn} (h : DA n cap a0 a1 a2 a3 a4 a5 a6 a7 a8) (hn : n ≤ 8) (hc : cap ≤ 8) {x : Nat} (hx : x < n) : sN a8 x ≤ 64 := by
  rw [(h.sL x hx).2.1]
  have := sm_b (f := dN a2 x) (c := 8) n (fun i hi => by have h1 := (h.sD x i hx hi).2; have h2 := (h.sS i hi).2; clear h; omega)
  clear h; omega
theorem DA_len' {n cap : Nat} {a0 a1 a2 a3 a4 a5 a6 a7 a8 : Fn} (h : DA n cap a0 a1 a2 a3 a4 a5 a6 a7 a8) (hn : n ≤ 8) (hc : cap ≤ 8) {x o : Nat} (hx : x < n) (ho : o < n) (hd : dN a2 x o < 8) : sN a8 x < 64 := by
  rw [(h.sL x hx).2.1]
  have := sm_lt (f := dN a2 x) (c := 8) ho (fun i hi => by have h1 := (h.sD x i hx hi).2; have h2 := (h.sS i hi).2; clear h; omega) hd
  clear h; omega
/-- a message delivered: (o, s) at x, with s the next; a broadcast too -/
theorem DA_dl {n cap : Nat} {a0 a1 a2 a3 a4 a5 a6 a7 a8 b0 b4 b5 : Fn} (h : DA n cap a0 a1 a2 a3 a4 a5 a6 a7 a8) (hn : n ≤ 8) (hc : cap ≤ 8) {x o s : Nat} (hx : x < n) (ho : o < n) (hs : s = dN a2 x o + 1) (hS : s ≤ sN b0 o)
    (h0 : ∀ u, u < n → b0 (n32 u) = n32 (sN b0 u) ∧ sN b0 u ≤ cap ∧ sN a0 u ≤ sN b0 u) (hO : ∀ y, y < n → ¬ (y = x ∧ o = x) → sN b0 y = sN a0 y) (hO' : x = o → sN b0 x = s)
    (h4 : ∀ u t q, u < n → 1 ≤ t → t ≤ sN a0 u → q < n → stN b4 u t q = stN a4 u t q) (h4' : ∀ q, q < n → ¬ q = o → stN b4 o s q ≤ dN a2 x q)
    (h5 : ∀ u t q, u < n → 1 ≤ t → t ≤ 8 → q < n → b5 (i5 u t q) = n32 (pN b5 u t q) ∧ pN b5 u t q ≤ 3 ∧ (sN b0 u < t → pN b5 u t q = 0)) :
    DA n cap b0 a1 (up a2 (i2 x o) (n32 s)) (up a3 (i3 x o s) 2) b4 b5 (up a6 (i6 x x o) (n32 s)) (up a7 (i7 x (sN a8 x)) (n32 (o * 16 + s))) (up a8 (n32 x) (n32 (sN a8 x + 1))) := by
  have s8 : 1 ≤ s ∧ s ≤ 8 := by have := (h0 o ho).2.1; clear h; omega
  have l64 := DA_len' h hn hc hx ho (show dN a2 x o < 8 by clear h; omega)
  have x8 : x < 8 := by clear h; omega
  have o8 : o < 8 := by clear h; omega
  have d1 : dN (up a2 (i2 x o) (n32 s)) x o = s := by unfold dN; rw [up_s, nt s (by clear h; omega)]; rfl
  have d2 : ∀ y u, y < n → u < n → ¬ (y = x ∧ u = o) → dN (up a2 (i2 x o) (n32 s)) y u = dN a2 y u := fun y u hy hu ne => by unfold dN; rw [up_o (i2_ne (by clear h; omega) (by clear h; omega) x8 o8 ne)]
  have d3 : ∀ y u, y < n → u < n → dN a2 y u ≤ dN (up a2 (i2 x o) (n32 s)) y u := fun y u hy hu => by
    by_cases e : y = x ∧ u = o
    · rw [e.1, e.2, d1]; clear h; omega
    · rw [d2 y u hy hu e]; exact Nat.le_refl _
  have l1 : sN (up a8 (n32 x) (n32 (sN a8 x + 1))) x = sN a8 x + 1 := by
    show ((up a8 (n32 x) (n32 (sN a8 x + 1))) (n32 x)).toInt.toNat = _
    rw [up_s, nt _ (by clear h; omega)]; rfl
  have l2 : ∀ y, y < n → ¬ y = x → sN (up a8 (n32 x) (n32 (sN a8 x + 1))) y = sN a8 y := fun y hy ne => by
    show ((up a8 (n32 x) (n32 (sN a8 x + 1))) (n32 y)).toInt.toNat = _
    rw [up_o (i1_ne (by clear h; omega) x8 ne)]; rfl
  have c1 : cd (up a7 (i7 x (sN a8 x)) (n32 (o * 16 + s))) x (sN a8 x) = o * 16 + s := by unfold cd; rw [up_s, nt _ (by clear h; omega)]; rfl
  have c2 : ∀ y i, y < n → i < 64 → ¬ (y = x ∧ i = sN a8 x) → (up a7 (i7 x (sN a8 x)) (n32 (o * 16 + s))) (i7 y i) = a7 (i7 y i) := fun y i hy hi ne => up_o (i7_ne (by clear h; omega) hi x8 l64 ne)
  have c3 : ∀ y i, y < n → i < 64 → ¬ (y = x ∧ i = sN a8 x) → cd (up a7 (i7 x (sN a8 x)) (n32 (o * 16 + s))) y i = cd a7 y i := fun y i hy hi ne => by unfold cd; rw [c2 y i hy hi ne]
  have cb1 : ∀ y i u, y < n → i ≤ sN a8 y → i ≤ 64 → cb (up a7 (i7 x (sN a8 x)) (n32 (o * 16 + s))) y i u = cb a7 y i u := fun y i u hy hi hi' => by
    unfold cb
    apply cN_eq
    intro j hj
    rw [c3 y j hy (by clear h; omega) (fun e => by rw [e.1] at hi; clear h; omega)]
  refine ⟨fun u hu => ⟨(h0 u hu).1, (h0 u hu).2.1⟩, h.sC, fun y u hy hu => ?_, fun y hy => ?_, fun y u t hy hu t1 t2 => ?_, h5, fun p q u hp hq hu => ?_, fun y hy => ?_, fun y i hy hi => ?_, fun q u t hq hu t1 t2 e r hr hr1 => ?_⟩
  · by_cases e : y = x ∧ u = o
    · rw [e.1, e.2, d1, up_s]; exact ⟨rfl, hS⟩
    · rw [d2 y u hy hu e, up_o (i2_ne (by clear h; omega) (by clear h; omega) x8 o8 e)]
      have := h.sD y u hy hu
      exact ⟨this.1, Nat.le_trans this.2 (h0 u hu).2.2⟩
  · by_cases e : y = x ∧ y = o
    · have exo : x = o := e.1.symm.trans e.2
      rw [e.1, hO' exo]
      rw [← exo] at d1 ⊢; exact d1
    · rw [d2 y y hy hy e, h.sO y hy]
      exact (hO y hy (fun z => e ⟨z.1, z.1.trans z.2.symm⟩)).symm
  · by_cases e : y = x ∧ u = o ∧ t = s
    · obtain ⟨e1, e2, e3⟩ := e
      have tt : tS (up a3 (i3 x o s) 2) x o s = 2 := up_s _ _ _
      rw [e1, e2, e3, tt, d1]
      exact ⟨Or.inr (Or.inr (Or.inl rfl)), ⟨fun _ => Nat.le_refl _, fun _ => Or.inl rfl⟩, fun z => by clear h; omega⟩
    · have tt : tS (up a3 (i3 x o s) 2) y u t = tS a3 y u t := up_o (i3_ne (by clear h; omega) (by clear h; omega) ⟨t1, t2⟩ x8 o8 s8 e)
      have hh := h.sT y u t hy hu t1 t2
      rw [tt]
      refine ⟨hh.1, ?_, fun z => hh.2.2 (Nat.lt_of_le_of_lt (h0 u hu).2.2 z)⟩
      by_cases e' : y = x ∧ u = o
      · obtain ⟨e1, e2⟩ := e'
        have e3 : ¬ t = s := fun z => e ⟨e1, e2, z⟩
        rw [e1, e2] at hh ⊢
        rw [d1, hh.2.1]; clear h hh; omega
      · rw [d2 y u hy hu e']; exact hh.2.1
  · have kk : ∀ p q u, p < n → q < n → u < n → ¬ (p = x ∧ q = x ∧ u = o) → (up a6 (i6 x x o) (n32 s)) (i6 p q u) = a6 (i6 p q u) := fun p q u hp hq hu ne => up_o (i6_ne (by clear h; omega) (by clear h; omega) (by clear h; omega) x8 x8 o8 ne)
    have k1 : kwN (up a6 (i6 x x o) (n32 s)) x x o = s := by unfold kwN; rw [up_s, nt s (by clear h; omega)]; rfl
    have hh := h.sK p q u hp hq hu
    refine ⟨?_, ?_, ?_⟩
    · by_cases e : p = x ∧ q = x ∧ u = o
      · rw [e.1, e.2.1, e.2.2, k1, up_s]
      · unfold kwN; rw [kk p q u hp hq hu e]; exact hh.1
    · by_cases e : p = x ∧ q = x ∧ u = o
      · rw [e.1, e.2.1, e.2.2, k1, d1]; exact Nat.le_refl _
      · have : kwN (up a6 (i6 x x o) (n32 s)) p q u = kwN a6 p q u := by unfold kwN; rw [kk p q u hp hq hu e]
        rw [this]; exact Nat.le_trans hh.2.1 (d3 q u hq hu)
    · by_cases e : p = x ∧ u = o
      · rw [e.1, e.2, k1, d1]
      · have : kwN (up a6 (i6 x x o) (n32 s)) p p u = kwN a6 p p u := by unfold kwN; rw [kk p p u hp hp hu (fun z => e ⟨z.1, z.2.2⟩)]
        rw [this, d2 p u hp hu e]; exact hh.2.2
  · by_cases e : y = x
    · rw [e, l1, up_s]
      have hl := h.sL x hx
      refine ⟨rfl, ?_, fun u hu => ?_⟩
      · have := sm_u (f := dN a2 x) (g := dN (up a2 (i2 x o) (n32 s)) x) n ho (fun i hi ne => d2 x i hx hi (fun z => ne z.2))
        rw [d1] at this
        rw [hl.2.1]; clear h; omega
      · show cb _ x (sN a8 x) u + (if decide (cd _ x (sN a8 x) / 16 = u) = true then 1 else 0) = _
        rw [cb1 x (sN a8 x) u hx (Nat.le_refl _) (by clear h; omega), hl.2.2 u hu, c1, show (o * 16 + s) / 16 = o by clear h; omega]
        by_cases z : o = u
        · rw [decide_eq_true z, if_pos rfl, ← z, d1]; clear h; omega
        · rw [decide_eq_false z, if_neg (by decide), d2 x u hx hu (fun w => z w.2.symm)]; rfl
    · rw [l2 y hy e, up_o (i1_ne (by clear h; omega) x8 e)]
      have hl := h.sL y hy
      have l64' := DA_len h hn hc hy
      refine ⟨hl.1, ?_, fun u hu => ?_⟩
      · rw [hl.2.1]; exact sm_c n (fun i hi => (d2 y i hy hi (fun z => e z.1)).symm)
      · rw [cb1 y _ u hy (Nat.le_refl _) l64', d2 y u hy hu (fun z => e z.1)]; exact hl.2.2 u hu
  · by_cases e : y = x ∧ i = sN a8 x
    · obtain ⟨e1, e2⟩ := e
      rw [e1, e2, c1, up_s, show (o * 16 + s) / 16 = o by clear h; omega, show (o * 16 + s) % 16 = s by clear h; omega]
      refine ⟨rfl, ho, ?_, by rw [d1]; exact Nat.le_refl _, fun u hu ne => ?_⟩
      · rw [cb1 x _ o hx (Nat.le_refl _) (by clear h; omega), (h.sL x hx).2.2 o ho]; clear h; omega
      · rw [cb1 x _ u hx (Nat.le_refl _) (by clear h; omega), (h.sL x hx).2.2 u hu]; exact h4' u hu ne
    · have il : i < sN a8 y := by
        by_cases z : y = x
        · rw [z, l1] at hi; rw [z]
          have : ¬ i = sN a8 x := fun w => e ⟨z, w⟩
          clear h; omega
        · rw [l2 y hy z] at hi; exact hi
      have l64' := DA_len h hn hc hy
      have hh := h.sE y i hy il
      have i64 : i < 64 := by clear h hh; omega
      rw [c2 y i hy i64 e, c3 y i hy i64 e, cb1 y i _ hy (by clear h hh; omega) (by clear h hh; omega)]
      have hd := (h.sD y (cd a7 y i / 16) hy hh.2.1).2
      refine ⟨hh.1, hh.2.1, hh.2.2.1, Nat.le_trans hh.2.2.2.1 (d3 y _ hy hh.2.1), fun u hu ne => ?_⟩
      rw [cb1 y i _ hy (by clear h hh; omega) (by clear h hh; omega), h4 _ _ u hh.2.1 (by have := hh.2.2.1; clear h hh; omega) (Nat.le_trans hh.2.2.2.1 hd) hu]
      exact hh.2.2.2.2 u hu ne
  · have e' : tS a3 q u t = 3 := by
      by_cases z : q = x ∧ u = o ∧ t = s
      · obtain ⟨z1, z2, z3⟩ := z
        rw [z1, z2, z3] at e
        have tt : tS (up a3 (i3 x o s) 2) x o s = 2 := up_s _ _ _
        rw [tt] at e; exact absurd e (by decide)
      · have tt : tS (up a3 (i3 x o s) 2) q u t = tS a3 q u t := up_o (i3_ne (by clear h; omega) (by clear h; omega) ⟨t1, t2⟩ x8 o8 s8 z)
        rw [tt] at e; exact e
    exact Nat.le_trans (h.sR q u t hq hu t1 t2 e' r hr hr1) (d3 r u hr hu)
abbrev DI (ob : Rec) (n cap : Nat) : Prop := gI ob 0 = n32 n ∧ gI ob 1 = n32 cap ∧ DA n cap (gA ob 0) (gA ob 1) (gA ob 2) (gA ob 3) (gA ob 4) (gA ob 5) (gA ob 6) (gA ob 7) (gA ob 8)
theorem m8 {x : Nat} (h : x < 100) : n32 x * 8 = n32 (x * 8) := n32_mul (j := 8) (by omega) (by omega)
theorem m64 {x : Nat} (h : x < 10) : n32 x * 64 = n32 (x * 64) := n32_mul (j := 64) (by omega) (by omega)
theorem m16 {x : Nat} (h : x < 10) : n32 x * 16 = n32 (x * 16) := n32_mul (j := 16) (by omega) (by omega)
theorem e2 {x o : Nat} (hx : x < 8) (ho : o < 8) : n32 x * 8 + n32 o = i2 x o := by rw [m8 (by omega), n32_add (by omega) (by omega)]; rfl
theorem e3 {x o s : Nat} (hx : x < 8) (ho : o < 8) (h1 : 1 ≤ s) (h2 : s ≤ 9) : n32 x * 64 + n32 o * 8 + n32 s - 1 = i3 x o s := by
  rw [m64 (by omega), m8 (by omega), n32_add (by omega) (by omega), n32_add (by omega) (by omega), show x * 64 + o * 8 + s = (x * 64 + o * 8 + s - 1) + 1 by omega, n32_p (by omega)]
  rfl
theorem em {o s : Nat} (ho : o < 8) (h1 : 1 ≤ s) (h2 : s ≤ 8) : n32 o * 8 + n32 s - 1 = n32 (o * 8 + s - 1) := by
  rw [m8 (by omega), n32_add (by omega) (by omega), show o * 8 + s = (o * 8 + s - 1) + 1 by omega, n32_p (by omega)]; rfl
theorem e5' {o s q : Nat} (ho : o < 8) (h1 : 1 ≤ s) (h2 : s ≤ 8) (hq : q < 8) : n32 (o * 8 + s - 1) * 8 + n32 q = i5 o s q := by rw [m8 (by omega), n32_add (by omega) (by omega)]; rfl
theorem e5 {o s q : Nat} (ho : o < 8) (h1 : 1 ≤ s) (h2 : s ≤ 8) (hq : q < 8) : (n32 o * 8 + n32 s - 1) * 8 + n32 q = i5 o s q := by rw [em ho h1 h2, e5' ho h1 h2 hq]
theorem e6 {p q o : Nat} (hp : p < 8) (hq : q < 8) (ho : o < 8) : n32 p * 64 + n32 q * 8 + n32 o = i6 p q o := by
  rw [m64 (by omega), m8 (by omega), n32_add (by omega) (by omega), n32_add (by omega) (by omega)]; rfl
theorem e7 {x i : Nat} (hx : x < 8) (hi : i < 64) : n32 x * 64 + n32 i = i7 x i := by rw [m64 (by omega), n32_add (by omega) (by omega)]; rfl
theorem k2 {γ : Type} {x o : Nat} {A : Option γ} (hx : x < 8) (ho : o < 8) : chk 64 (i2 x o) A = A := ck32 (m := 64) rfl (by omega) (by omega)
theorem k3 {γ : Type} {x o s : Nat} {A : Option γ} (hx : x < 8) (ho : o < 8) (h1 : 1 ≤ s) (h2 : s ≤ 8) : chk 512 (i3 x o s) A = A := ck32 (m := 512) rfl (by omega) (by omega)
theorem k5 {γ : Type} {o s q : Nat} {A : Option γ} (ho : o < 8) (h1 : 1 ≤ s) (h2 : s ≤ 8) (hq : q < 8) : chk 512 (i5 o s q) A = A := ck32 (m := 512) rfl (by omega) (by omega)
theorem k6 {γ : Type} {p q o : Nat} {A : Option γ} (hp : p < 8) (hq : q < 8) (ho : o < 8) : chk 512 (i6 p q o) A = A := ck32 (m := 512) rfl (by omega) (by omega)
theorem k7 {γ : Type} {x i : Nat} {A : Option γ} (hx : x < 8) (hi : i < 64) : chk 512 (i7 x i) A = A := ck32 (m := 512) rfl (by omega) (by omega)
theorem kp {γ : Type} {x : Nat} {A : Option γ} (hx : x < 8) : chk 8 (n32 x) A = A := ck32 (m := 8) rfl (by omega) (by omega)
theorem vp_e {ob : Rec} {n p : Nat} (h : gI ob 0 = n32 n) (hn : n ≤ 8) (hp : p < 100) : X_validProc ob (n32 p) = some (if p < n then 1 else 0) := by
  unfold X_validProc; rw [if_neg (nneg (n32_b (by omega)).1), h]
  by_cases c : p < n
  · rw [if_pos ((n32_lt (by omega) (by omega)).mpr c), if_pos c]
  · rw [if_neg (fun x => c ((n32_lt (by omega) (by omega)).mp x)), if_neg c]
theorem ex_e {ob : Rec} {n cap o s : Nat} (h : DI ob n cap) (hn : n ≤ 8) (hc : cap ≤ 8) (ho : o < 100) (hs : s < 100) : X_exists ob (n32 o) (n32 s) = some (if o < n ∧ 1 ≤ s ∧ s ≤ sN (gA ob 0) o then 1 else 0) := by
  unfold X_exists; rw [if_neg (nneg (n32_b (by clear h; omega)).1), h.1]
  by_cases c : o < n
  · have hS := h.2.2.sS o c
    rw [if_pos ((n32_lt (by clear h; omega) (by clear h; omega)).mpr c)]
    by_cases d : s < 1
    · rw [if_pos (by rw [lt_i, nt s (by clear h; omega)]; show (s : Int) < 1; clear h; omega), if_neg (fun x => by clear h; omega)]
    · rw [if_neg (by rw [lt_i, nt s (by clear h; omega)]; show ¬ (s : Int) < 1; clear h; omega), kp (by clear h; omega), hS.1]
      have hS2 := hS.2
      by_cases e : sN (gA ob 0) o < s
      · rw [if_pos ((n32_lt (by clear h; omega) (by clear h; omega)).mpr e), if_neg (fun x => by clear h; omega)]
      · rw [if_neg (fun x => e ((n32_lt (by clear h; omega) (by clear h; omega)).mp x)), if_pos ⟨c, by clear h; omega, by clear h; omega⟩]
  · rw [if_neg (fun x => c ((n32_lt (by clear h; omega) (by clear h; omega)).mp x)), if_neg (fun x => c x.1)]
theorem ex_y {ob : Rec} {n cap o s : Nat} (h : DI ob n cap) (hn : n ≤ 8) (hc : cap ≤ 8) (ho : o < n) (h1 : 1 ≤ s) (h2 : s ≤ sN (gA ob 0) o) : X_exists ob (n32 o) (n32 s) = some 1 := by
  have sS := (h.2.2.sS o ho).2
  rw [ex_e h hn hc (by clear h; omega) (by clear h; omega), if_pos ⟨ho, h1, h2⟩]
theorem ex_n {ob : Rec} {n cap o s : Nat} (h : DI ob n cap) (hn : n ≤ 8) (hc : cap ≤ 8) (ho : o < 100) (hs : s < 100) (hq : ¬ (o < n ∧ 1 ≤ s ∧ s ≤ sN (gA ob 0) o)) : X_exists ob (n32 o) (n32 s) = some 0 := by
  rw [ex_e h hn hc ho hs, if_neg hq]
def dlr (ob : Rec) (x o s d l : Nat) : Rec := sA (sA (sA (sA (sA ob 3 (i3 x o s) 2) 2 (i2 x o) (n32 (d + 1))) 7 (i7 x l) (n32 (o * 16 + s))) 8 (n32 x) (n32 (l + 1))) 6 (i6 x x o) (n32 (d + 1))
theorem dlr_n (ob : Rec) (x o s d l : Nat) {j : Nat} (h : ¬ j = 3 ∧ ¬ j = 2 ∧ ¬ j = 7 ∧ ¬ j = 8 ∧ ¬ j = 6) : gA (dlr ob x o s d l) j = gA ob j := by
  unfold dlr; rw [gA_n _ h.2.2.2.2, gA_n _ h.2.2.2.1, gA_n _ h.2.2.1, gA_n _ h.2.1, gA_n _ h.1]
theorem dlr_2 (ob : Rec) (x o s d l : Nat) : gA (dlr ob x o s d l) 2 = up (gA ob 2) (i2 x o) (n32 (d + 1)) := by
  unfold dlr; rw [gA_n _ (by decide), gA_n _ (by decide), gA_n _ (by decide), gA_u, gA_n _ (by decide)]
theorem dlr_3 (ob : Rec) (x o s d l : Nat) : gA (dlr ob x o s d l) 3 = up (gA ob 3) (i3 x o s) 2 := by
  unfold dlr; rw [gA_n _ (by decide), gA_n _ (by decide), gA_n _ (by decide), gA_n _ (by decide), gA_u]
theorem dlr_6 (ob : Rec) (x o s d l : Nat) : gA (dlr ob x o s d l) 6 = up (gA ob 6) (i6 x x o) (n32 (d + 1)) := by
  unfold dlr; rw [gA_u, gA_n _ (by decide), gA_n _ (by decide), gA_n _ (by decide), gA_n _ (by decide)]
theorem dlr_7 (ob : Rec) (x o s d l : Nat) : gA (dlr ob x o s d l) 7 = up (gA ob 7) (i7 x l) (n32 (o * 16 + s)) := by
  unfold dlr; rw [gA_n _ (by decide), gA_n _ (by decide), gA_u, gA_n _ (by decide), gA_n _ (by decide)]
theorem dlr_8 (ob : Rec) (x o s d l : Nat) : gA (dlr ob x o s d l) 8 = up (gA ob 8) (n32 x) (n32 (l + 1)) := by
  unfold dlr; rw [gA_n _ (by decide), gA_u, gA_n _ (by decide), gA_n _ (by decide), gA_n _ (by decide)]
theorem dlv_e {ob : Rec} {x o s d l : Nat} (hx : x < 8) (ho : o < 8) (h1 : 1 ≤ s) (h2 : s ≤ 8) (hd : gA ob 2 (i2 x o) = n32 d) (hd8 : d < 100) (hl : gA ob 8 (n32 x) = n32 l) (hl8 : l < 64) : X_deliverAt ob (n32 x) (n32 o) (n32 s) = some (dlr ob x o s d l) := by
  have l0 : ¬ gA ob 8 (n32 x) < 0 := by rw [hl]; exact nneg (n32_b (by omega)).1
  have l6 : gA ob 8 (n32 x) < 64 := by rw [hl, lt_i, nt l (by omega)]; show (l : Int) < 64; omega
  unfold X_deliverAt X_stateIndex
  rw [Option.bind_some, e3 hx ho h1 (by omega), k3 hx ho h1 h2, e2 hx ho, k2 hx ho, k2 hx ho, kp hx, if_neg l0, if_pos l6, hl, e7 hx hl8, k7 hx hl8, kp hx, hd, n32_s (by omega), n32_s (by omega), m16 (by omega), n32_add (by omega) (by omega)]
  unfold X_deliverAt_b89 X_knownIndex
  rw [Option.bind_some, e6 hx hx ho, e2 hx ho, k2 hx ho, k6 hx hx ho, gA_n _ (by decide), gA_n _ (by decide), gA_u, up_s]
  rfl
/-- what a delivery leaves -/
abbrev CR (ob r : Rec) (x c : Nat) : Prop := (∀ j, gI r j = gI ob j) ∧ (gA r 0 = gA ob 0 ∧ gA r 1 = gA ob 1 ∧ gA r 4 = gA ob 4 ∧ gA r 5 = gA ob 5) ∧ (∀ y u t, y < 8 → u < 8 → 1 ≤ t → t ≤ 8 → (tS (gA r 3) y u t = 3 ↔ tS (gA ob 3) y u t = 3)) ∧ (sN (gA r 8) x = sN (gA ob 8) x + c) ∧ (∀ y, y < 8 → ¬ y = x → sN (gA r 8) y = sN (gA ob 8) y)
theorem CR.gi {ob r : Rec} {x c : Nat} (h : CR ob r x c) : ∀ j, gI r j = gI ob j := h.1
theorem CR.ga {ob r : Rec} {x c : Nat} (h : CR ob r x c) : gA r 0 = gA ob 0 ∧ gA r 1 = gA ob 1 ∧ gA r 4 = gA ob 4 ∧ gA r 5 = gA ob 5 := h.2.1
theorem CR.t3 {ob r : Rec} {x c : Nat} (h : CR ob r x c) : ∀ y u t, y < 8 → u < 8 → 1 ≤ t → t ≤ 8 → (tS (gA r 3) y u t = 3 ↔ tS (gA ob 3) y u t = 3) := h.2.2.1
theorem CR.ln {ob r : Rec} {x c : Nat} (h : CR ob r x c) : sN (gA r 8) x = sN (gA ob 8) x + c := h.2.2.2.1
theorem CR.lo {ob r : Rec} {x c : Nat} (h : CR ob r x c) : ∀ y, y < 8 → ¬ y = x → sN (gA r 8) y = sN (gA ob 8) y := h.2.2.2.2
theorem CR.rf (ob : Rec) (x : Nat) : CR ob ob x 0 := ⟨fun _ => rfl, ⟨rfl, rfl, rfl, rfl⟩, fun _ _ _ _ _ _ _ => Iff.rfl, rfl, fun _ _ _ => rfl⟩
theorem CR.tr {a b c : Rec} {x i j : Nat} (h : CR a b x i) (g : CR b c x j) : CR a c x (i + j) := by
  obtain ⟨h1, ⟨h2, h3, h4, h5⟩, h6, h7, h8⟩ := h
  obtain ⟨g1, ⟨g2, g3, g4, g5⟩, g6, g7, g8⟩ := g
  exact ⟨fun k => (g1 k).trans (h1 k), ⟨g2.trans h2, g3.trans h3, g4.trans h4, g5.trans h5⟩, fun y u t a b c d => (g6 y u t a b c d).trans (h6 y u t a b c d), by rw [g7, h7, Nat.add_assoc], fun y a b => (g8 y a b).trans (h8 y a b)⟩
theorem dl_ok {ob : Rec} {n cap x o : Nat} (h : DI ob n cap) (hn : n ≤ 8) (hc : cap ≤ 8) (hx : x < n) (ho : o < n) (hS : dN (gA ob 2) x o + 1 ≤ sN (gA ob 0) o) (h4 : ∀ q, q < n → ¬ q = o → stN (gA ob 4) o (dN (gA ob 2) x o + 1) q ≤ dN (gA ob 2) x q) :
    ∃ r, X_deliverAt ob (n32 x) (n32 o) (n32 (dN (gA ob 2) x o + 1)) = some r ∧ DI r n cap ∧ CR ob r x 1 := by
  obtain ⟨g0, g1, da⟩ := h
  have sc := (da.sS o ho).2
  have l64 := DA_len' da hn hc hx ho (show dN (gA ob 2) x o < 8 by clear da; omega)
  have hd := (da.sD x o hx ho).1
  have hl := (da.sL x hx).1
  have x8 : x < 8 := by clear da; omega
  have o8 : o < 8 := by clear da; omega
  refine ⟨_, dlv_e x8 o8 (by clear da; omega) (by clear da; omega) hd (by clear da; omega) hl l64, ⟨g0, g1, ?_⟩, ⟨fun _ => rfl, ⟨dlr_n _ _ _ _ _ _ (by decide), dlr_n _ _ _ _ _ _ (by decide), dlr_n _ _ _ _ _ _ (by decide), dlr_n _ _ _ _ _ _ (by decide)⟩, fun y u t hy hu t1 t2 => ?_, ?_, fun y hy ne => ?_⟩⟩
  · rw [dlr_n _ _ _ _ _ _ (show ¬ (0 = 3) ∧ ¬ (0 = 2) ∧ ¬ (0 = 7) ∧ ¬ (0 = 8) ∧ ¬ (0 = 6) by decide), dlr_n _ _ _ _ _ _ (show ¬ (1 = 3) ∧ ¬ (1 = 2) ∧ ¬ (1 = 7) ∧ ¬ (1 = 8) ∧ ¬ (1 = 6) by decide), dlr_2, dlr_3, dlr_n _ _ _ _ _ _ (show ¬ (4 = 3) ∧ ¬ (4 = 2) ∧ ¬ (4 = 7) ∧ ¬ (4 = 8) ∧ ¬ (4 = 6) by decide), dlr_n _ _ _ _ _ _ (show ¬ (5 = 3) ∧ ¬ (5 = 2) ∧ ¬ (5 = 7) ∧ ¬ (5 = 8) ∧ ¬ (5 = 6) by decide), dlr_6, dlr_7, dlr_8]
    exact DA_dl da hn hc hx ho rfl hS (fun u hu => ⟨(da.sS u hu).1, (da.sS u hu).2, Nat.le_refl _⟩) (fun _ _ _ => rfl) (fun e => by rw [← e] at hS ⊢; have := da.sO x hx; clear da; omega) (fun _ _ _ _ _ _ _ => rfl) h4 da.sP
  · rw [dlr_3]
    by_cases e : y = x ∧ u = o ∧ t = dN (gA ob 2) x o + 1
    · obtain ⟨q1, q2, q3⟩ := e
      rw [q1, q2, q3]
      have tt : tS (up (gA ob 3) (i3 x o (dN (gA ob 2) x o + 1)) 2) x o (dN (gA ob 2) x o + 1) = 2 := up_s _ _ _
      rw [tt]
      have hh := (da.sT x o (dN (gA ob 2) x o + 1) hx ho (by clear da; omega) (by clear da; omega)).2.1
      exact ⟨fun z => absurd z (by decide), fun z => absurd (hh.mp (Or.inr z)) (by clear da hh; omega)⟩
    · have tt : tS (up (gA ob 3) (i3 x o (dN (gA ob 2) x o + 1)) 2) y u t = tS (gA ob 3) y u t := up_o (i3_ne hy hu ⟨t1, t2⟩ x8 o8 (by clear da; omega) e)
      rw [tt]
  · rw [dlr_8]
    show (up (gA ob 8) (n32 x) (n32 (sN (gA ob 8) x + 1)) (n32 x)).toInt.toNat = _
    rw [up_s, nt _ (by clear da; omega)]; rfl
  · rw [dlr_8]
    show (up (gA ob 8) (n32 x) (n32 (sN (gA ob 8) x + 1)) (n32 y)).toInt.toNat = _
    rw [up_o (i1_ne hy x8 ne)]; rfl
/-- a message that can be delivered -/
theorem isd_l (NF : Nat) {ob : Rec} {n cap x o s : Nat} (h : DI ob n cap) (hn : n ≤ 8) (hc : cap ≤ 8) (hx : x < n) (ho : o < n) (h1 : 1 ≤ s) (h2 : s ≤ 8) : ∀ (m fuel i : Nat), m < fuel → i ≤ n → n - i ≤ m → (∀ q, q < i → ¬ q = o → stN (gA ob 4) o s q ≤ dN (gA ob 2) x q) →
    X_isDeliverable_l63 NF ob fuel (n32 x) (n32 o) (n32 (o * 8 + s - 1)) (n32 i) = some 0 ∨ (X_isDeliverable_l63 NF ob fuel (n32 x) (n32 o) (n32 (o * 8 + s - 1)) (n32 i) = some 1 ∧ ∀ q, q < n → ¬ q = o → stN (gA ob 4) o s q ≤ dN (gA ob 2) x q) := by
  intro m
  induction m with
  | zero =>
    intro fuel i hf hi hm hq
    obtain ⟨g, rfl⟩ : ∃ g, fuel = g + 1 := ⟨fuel - 1, by clear h; omega⟩
    have e : i = n := by clear h; omega
    right
    refine ⟨?_, by rw [← e]; exact hq⟩
    show X_isDeliverable_w63 NF ob _ _ _ _ _ = _
    unfold X_isDeliverable_w63
    rw [h.1, if_neg (fun z => by rw [n32_lt (by clear h; omega) (by clear h; omega)] at z; clear h; omega)]
  | succ m ih =>
    intro fuel i hf hi hm hq
    obtain ⟨g, rfl⟩ : ∃ g, fuel = g + 1 := ⟨fuel - 1, by clear h; omega⟩
    show X_isDeliverable_w63 NF ob (X_isDeliverable_l63 NF ob g) _ _ _ _ = _ ∨ (X_isDeliverable_w63 NF ob (X_isDeliverable_l63 NF ob g) _ _ _ _ = _ ∧ _)
    unfold X_isDeliverable_w63
    rw [h.1]
    by_cases e : i = n
    · right
      rw [if_neg (fun z => by rw [n32_lt (by clear h; omega) (by clear h; omega)] at z; clear h; omega)]
      exact ⟨rfl, by rw [← e]; exact hq⟩
    · rw [if_pos ((n32_lt (by clear h; omega) (by clear h; omega)).mpr (by clear h; omega)), n32_s (by clear h; omega)]
      have nx := fun hq' => ih g (i + 1) (by clear h; omega) (by clear h; omega) (by clear h; omega) hq'
      by_cases c : i = o
      · rw [if_pos (by rw [c])]
        exact nx (fun q z w => hq q (by clear h; omega) w)
      · rw [if_neg (i1_ne (by clear h; omega) (by clear h; omega) c), e5' (by clear h; omega) h1 h2 (by clear h; omega), k5 (by clear h; omega) h1 h2 (by clear h; omega), e2 (by clear h; omega) (by clear h; omega), k2 (by clear h; omega) (by clear h; omega)]
        have hd := (h.2.2.sD x i hx (by clear h; omega)).1
        have hb := (h.2.2.sD x i hx (by clear h; omega)).2
        by_cases d : gA ob 2 (i2 x i) < gA ob 4 (i5 o s i)
        · left; rw [if_pos d]
        · rw [if_neg d]
          refine nx (fun q z w => ?_)
          by_cases e' : q = i
          · rw [e']
            have sS := (h.2.2.sS i (by clear h; omega)).2
            rw [lt_i, hd, nt _ (by clear h; omega)] at d
            unfold stN
            clear h; omega
          · exact hq q (by clear h; omega) w
theorem isd_e (NF : Nat) (hNF : 200 < NF) {ob : Rec} {n cap x o : Nat} (h : DI ob n cap) (hn : n ≤ 8) (hc : cap ≤ 8) (hx : x < n) (ho : o < n) :
    X_isDeliverable NF ob (n32 x) (n32 o) (n32 (dN (gA ob 2) x o + 1)) = some 0 ∨ (X_isDeliverable NF ob (n32 x) (n32 o) (n32 (dN (gA ob 2) x o + 1)) = some 1 ∧ dN (gA ob 2) x o + 1 ≤ sN (gA ob 0) o ∧ ∀ q, q < n → ¬ q = o → stN (gA ob 4) o (dN (gA ob 2) x o + 1) q ≤ dN (gA ob 2) x q) := by
  have hd := h.2.2.sD x o hx ho
  have hS := (h.2.2.sS o ho).2
  have hd2 := hd.2
  unfold X_isDeliverable
  by_cases c : dN (gA ob 2) x o + 1 ≤ sN (gA ob 0) o
  · rw [ex_y h hn hc ho (by clear h; omega) c, Option.bind_some, if_neg (by decide)]
    unfold X_stateIndex X_msgIndex
    rw [Option.bind_some, e3 (by clear h; omega) (by clear h; omega) (by clear h; omega) (by clear h; omega), k3 (by clear h; omega) (by clear h; omega) (by clear h; omega) (by clear h; omega)]
    by_cases d : gA ob 3 (i3 x o (dN (gA ob 2) x o + 1)) = 1
    · rw [if_pos d, e2 (by clear h; omega) (by clear h; omega), k2 (by clear h; omega) (by clear h; omega), hd.1, n32_s (by clear h; omega), if_pos rfl, Option.bind_some, em (by clear h; omega) (by clear h; omega) (by clear h; omega)]
      rcases isd_l NF h hn hc hx ho (s := dN (gA ob 2) x o + 1) (by clear h; omega) (by clear h; omega) 20 NF 0 (by clear h; omega) (by clear h; omega) (by clear h; omega) (fun q z => absurd z (by omega)) with e | ⟨e, f⟩
      · left; exact e
      · right; exact ⟨e, c, f⟩
    · left; rw [if_neg d]
  · left
    rw [ex_n h hn hc (by clear h; omega) (by clear h; omega) (fun z => c z.2.2), Option.bind_some, if_pos rfl]
/-- the cascade -/
theorem csc_l (NF : Nat) (hNF : 200 < NF) {n cap x : Nat} (hn : n ≤ 8) (hc : cap ≤ 8) (hx : x < n) : ∀ (m fuel : Nat) (ob : Rec) (c : Nat), m < fuel → DI ob n cap → c ≤ 65 → 65 - c ≤ m →
    ∃ r c', X_cascade_l4 NF fuel ob (n32 x) (n32 c) (n32 c) = some (n32 (c + c'), r) ∧ DI r n cap ∧ CR ob r x c' ∧ c + c' ≤ 65 := by
  intro m
  induction m with
  | zero =>
    intro fuel ob c hf h h1 h2
    obtain ⟨g, rfl⟩ : ∃ g, fuel = g + 1 := ⟨fuel - 1, by clear h; omega⟩
    have e : c = 65 := by clear h; omega
    refine ⟨ob, 0, ?_, h, CR.rf ob x, by clear h; omega⟩
    show X_cascade_w4 NF _ ob (n32 x) (n32 c) (n32 c) = _
    unfold X_cascade_w4
    rw [e, if_neg (by decide)]
  | succ m ih =>
    intro fuel ob c hf h h1 h2
    obtain ⟨g, rfl⟩ : ∃ g, fuel = g + 1 := ⟨fuel - 1, by clear h; omega⟩
    show ∃ r c', X_cascade_w4 NF (X_cascade_l4 NF g) ob (n32 x) (n32 c) (n32 c) = _ ∧ _
    unfold X_cascade_w4
    by_cases e : c = 65
    · rw [e, if_neg (by decide)]
      exact ⟨ob, 0, rfl, h, CR.rf ob x, by clear h; omega⟩
    · rw [if_pos (by rw [lt_i, nt c (by clear h; omega)]; show (c : Int) < 65; clear h; omega)]
      have inner : ∀ (k f2 i : Nat), k < f2 → i ≤ n → n - i ≤ k → ∃ r c', X_cascade_l19 NF (X_cascade_l4 NF g) f2 ob (n32 x) (n32 c) (n32 c) (-1) 0 (n32 i) = some (n32 (c + c'), r) ∧ DI r n cap ∧ CR ob r x c' ∧ c + c' ≤ 65 := by
        have stop : ∀ kk, ∃ r c', X_cascade_w19 NF (X_cascade_l4 NF g) kk ob (n32 x) (n32 c) (n32 c) (-1) 0 (n32 n) = some (n32 (c + c'), r) ∧ DI r n cap ∧ CR ob r x c' ∧ c + c' ≤ 65 := by
          intro kk
          refine ⟨ob, 0, ?_, h, CR.rf ob x, by clear h; omega⟩
          unfold X_cascade_w19
          rw [h.1, if_neg (by rw [lt_i]; clear h; omega)]
          unfold X_cascade_b73
          rw [if_pos (by decide)]; rfl
        intro k
        induction k with
        | zero =>
          intro f2 i hf2 hi hk
          obtain ⟨g2, rfl⟩ : ∃ g2, f2 = g2 + 1 := ⟨f2 - 1, by clear h; omega⟩
          have e : i = n := by clear h; omega
          rw [e]; exact stop _
        | succ k ihk =>
          intro f2 i hf2 hi hk
          obtain ⟨g2, rfl⟩ : ∃ g2, f2 = g2 + 1 := ⟨f2 - 1, by clear h; omega⟩
          by_cases e : i = n
          · rw [e]; exact stop _
          · have hin : i < n := by clear h; omega
            have hd := h.2.2.sD x i hx hin
            have hS := (h.2.2.sS i hin).2
            have hd2 := hd.2
            show ∃ r c', X_cascade_w19 NF (X_cascade_l4 NF g) (X_cascade_l19 NF (X_cascade_l4 NF g) g2) ob (n32 x) (n32 c) (n32 c) (-1) 0 (n32 i) = _ ∧ _
            unfold X_cascade_w19
            rw [h.1, if_pos ((n32_lt (by clear h; omega) (by clear h; omega)).mpr hin), e2 (by clear h; omega) (by clear h; omega), k2 (by clear h; omega) (by clear h; omega), hd.1, n32_s (by clear h; omega)]
            rcases isd_e NF hNF h hn hc hx hin with w | ⟨w1, w2, w3⟩
            · rw [w, Option.bind_some, if_pos rfl, n32_s (by clear h; omega)]
              exact ihk g2 (i + 1) (by clear h; omega) (by clear h; omega) (by clear h; omega)
            · rw [w1, Option.bind_some, if_neg (by decide)]
              unfold X_cascade_b73
              obtain ⟨r, r1, r2, r3⟩ := dl_ok h hn hc hx hin w2 w3
              rw [if_neg (nneg (n32_b (by clear h; omega)).1), r1, Option.bind_some, n32_s (by clear h; omega)]
              obtain ⟨q, c', q1, q2, q3, q4⟩ := ih g r (c + 1) (by clear h r2; omega) r2 (by clear h r2; omega) (by clear h r2; omega)
              refine ⟨q, 1 + c', ?_, q2, r3.tr q3, by clear h r2 q2; omega⟩
              rw [q1, Nat.add_assoc]
      exact inner 20 NF 0 (by clear h; omega) (by clear h; omega) (by clear h; omega)
/-- only the copies change -/
theorem DI_5 {ob : Rec} {n cap o s q v : Nat} (h : DI ob n cap) (hn : n ≤ 8) (hc : cap ≤ 8) (ho : o < n) (h1 : 1 ≤ s) (h2 : s ≤ sN (gA ob 0) o) (hq : q < n) (hv : v ≤ 3) : DI (sA ob 5 (i5 o s q) (n32 v)) n cap := by
  obtain ⟨g0, g1, a, b, c, d, e, f, g, k, l, m⟩ := h
  have sS := (a o ho).2
  refine ⟨g0, g1, ?_⟩
  rw [gA_n _ (show ¬ 0 = 5 by decide), gA_n _ (show ¬ 1 = 5 by decide), gA_n _ (show ¬ 2 = 5 by decide), gA_n _ (show ¬ 3 = 5 by decide), gA_n _ (show ¬ 4 = 5 by decide), gA_u, gA_n _ (show ¬ 6 = 5 by decide), gA_n _ (show ¬ 7 = 5 by decide), gA_n _ (show ¬ 8 = 5 by decide)]
  refine ⟨a, b, c, d, e, fun u t w hu t1 t2 hw => ?_, g, k, l, m⟩
  by_cases z : u = o ∧ t = s ∧ w = q
  · rw [z.1, z.2.1, z.2.2]
    unfold pN
    rw [up_s, nt v (by omega)]
    exact ⟨rfl, by omega, fun y => by omega⟩
  · have := f u t w hu t1 t2 hw
    unfold pN at this ⊢
    rw [up_o (i5_ne (by omega) ⟨t1, t2⟩ (by omega) (by omega) ⟨h1, by omega⟩ (by omega) z)]
    exact this
/-- only a state changes: 0 to 1 -/
theorem DI_3 {ob : Rec} {n cap x o s : Nat} (h : DI ob n cap) (hn : n ≤ 8) (hc : cap ≤ 8) (hx : x < n) (ho : o < n) (h1 : 1 ≤ s) (h2 : s ≤ sN (gA ob 0) o) (hz : gA ob 3 (i3 x o s) = 0) : DI (sA ob 3 (i3 x o s) 1) n cap := by
  obtain ⟨g0, g1, a, b, c, d, e, f, g, k, l, m⟩ := h
  have sS := (a o ho).2
  refine ⟨g0, g1, ?_⟩
  rw [gA_n _ (show ¬ 0 = 3 by decide), gA_n _ (show ¬ 1 = 3 by decide), gA_n _ (show ¬ 2 = 3 by decide), gA_u, gA_n _ (show ¬ 4 = 3 by decide), gA_n _ (show ¬ 5 = 3 by decide), gA_n _ (show ¬ 6 = 3 by decide), gA_n _ (show ¬ 7 = 3 by decide), gA_n _ (show ¬ 8 = 3 by decide)]
  refine ⟨a, b, c, d, fun y u t hy hu t1 t2 => ?_, f, g, k, l, fun w u t hw hu t1 t2 z r hr hr1 => ?_⟩
  · by_cases z : y = x ∧ u = o ∧ t = s
    · obtain ⟨z1, z2, z3⟩ := z
      rw [z1, z2, z3]
      have hh := e x o s hx ho h1 (by omega)
      have tt : tS (up (gA ob 3) (i3 x o s) 1) x o s = 1 := up_s _ _ _
      have t0 : tS (gA ob 3) x o s = 0 := hz
      rw [tt]
      rw [t0] at hh
      refine ⟨Or.inr (Or.inl rfl), ⟨fun w => ?_, fun w => ?_⟩, fun w => by omega⟩
      · rcases w with w | w <;> exact absurd w (by decide)
      · rcases hh.2.1.mpr w with w | w <;> exact absurd w (by decide)
    · have tt : tS (up (gA ob 3) (i3 x o s) 1) y u t = tS (gA ob 3) y u t := up_o (i3_ne (by omega) (by omega) ⟨t1, t2⟩ (by omega) (by omega) ⟨h1, by omega⟩ z)
      rw [tt]; exact e y u t hy hu t1 t2
  · refine m w u t hw hu t1 t2 ?_ r hr hr1
    by_cases y : w = x ∧ u = o ∧ t = s
    · obtain ⟨z1, z2, z3⟩ := y
      rw [z1, z2, z3] at z
      have tt : tS (up (gA ob 3) (i3 x o s) 1) x o s = 1 := up_s _ _ _
      rw [tt] at z; exact absurd z (by decide)
    · have tt : tS (up (gA ob 3) (i3 x o s) 1) w u t = tS (gA ob 3) w u t := up_o (i3_ne (by omega) (by omega) ⟨t1, t2⟩ (by omega) (by omega) ⟨h1, by omega⟩ y)
      rw [tt] at z; exact z
/-- a call that only writes one copy count -/
abbrev C5 (ob r : Rec) (o s q v : Nat) : Prop := r = sA ob 5 (i5 o s q) (n32 v)
theorem rcv_e (NF : Nat) (hNF : 200 < NF) {ob : Rec} {n cap p o s : Nat} (h : DI ob n cap) (hn : n ≤ 8) (hc : cap ≤ 8) (hp : p < 100) (ho : o < 100) (hs : s < 100) :
    ∃ a r, X_receive NF ob (n32 p) (n32 o) (n32 s) = some (a, r) ∧ DI r n cap ∧
      ((a < 0 ∧ ¬ a = -5 ∧ r = ob) ∨ (p < n ∧ o < n ∧ 1 ≤ s ∧ s ≤ sN (gA ob 0) o ∧ 1 ≤ pN (gA ob 5) o s p ∧
        ((a = -5 ∧ r = sA ob 5 (i5 o s p) (n32 (pN (gA ob 5) o s p - 1))) ∨ ∃ c q, a = n32 c ∧ c ≤ 65 ∧ gA ob 3 (i3 p o s) = 0 ∧ q = sA (sA ob 5 (i5 o s p) (n32 (pN (gA ob 5) o s p - 1))) 3 (i3 p o s) 1 ∧ CR q r p c))) := by
  unfold X_receive
  rw [vp_e h.1 hn hp, Option.bind_some]
  by_cases c1 : p < n
  · rw [if_pos c1, if_neg (by decide)]
    by_cases c2 : o < n ∧ 1 ≤ s ∧ s ≤ sN (gA ob 0) o
    · obtain ⟨o1, s1', s2⟩ := c2
      have sS := (h.2.2.sS o o1).2
      rw [ex_y h hn hc o1 s1' s2, Option.bind_some, if_neg (by decide), kp (by clear h; omega)]
      by_cases c3 : gA ob 1 (n32 p) = 0
      · have hP := h.2.2.sP o s p o1 s1' (by clear h; omega) c1
        rw [if_pos c3]
        unfold X_copyIndex X_stateIndex
        have kk : ∀ A : Option (Int32 × Rec), chk 512 (i5 o s p) A = A := fun A => k5 (by clear h; omega) s1' (by clear h; omega) (by clear h; omega)
        rw [Option.bind_some, e5 (by clear h; omega) s1' (by clear h; omega) (by clear h; omega), kk]
        by_cases c4 : gA ob 5 (i5 o s p) = 0
        · rw [if_pos c4]; exact ⟨_, ob, rfl, h, Or.inl ⟨by decide, by decide, rfl⟩⟩
        · have p1 : 1 ≤ pN (gA ob 5) o s p := by
            have : ¬ pN (gA ob 5) o s p = 0 := fun z => c4 (by rw [hP.1, z]; rfl)
            clear h; omega
          have e5' : gA ob 5 (i5 o s p) - 1 = n32 (pN (gA ob 5) o s p - 1) := by
            rw [hP.1]
            obtain ⟨k, hk⟩ : ∃ k, pN (gA ob 5) o s p = k + 1 := ⟨pN (gA ob 5) o s p - 1, by clear h; omega⟩
            have := hP.2.1
            rw [hk, n32_p (by clear h; omega)]; rfl
          have kk3 : ∀ A : Option (Int32 × Rec), chk 512 (i3 p o s) A = A := fun A => k3 (by clear h; omega) (by clear h; omega) s1' (by clear h; omega)
          rw [if_neg c4, kk, kk, Option.bind_some, e3 (by clear h; omega) (by clear h; omega) s1' (by clear h; omega), kk3, e5']
          have d5 := DI_5 (v := pN (gA ob 5) o s p - 1) h hn hc o1 s1' s2 c1 (by have := hP.2.1; clear h; omega)
          by_cases c5 : gA ob 3 (i3 p o s) = 0
          · have z3 : gA (sA ob 5 (i5 o s p) (n32 (pN (gA ob 5) o s p - 1))) 3 (i3 p o s) = 0 := by rw [gA_n _ (by decide)]; exact c5
            have s2' : s ≤ sN (gA (sA ob 5 (i5 o s p) (n32 (pN (gA ob 5) o s p - 1))) 0) o := by rw [gA_n _ (by decide)]; exact s2
            have d3 := DI_3 d5 hn hc c1 o1 s1' s2' z3
            obtain ⟨r, c', r1, r2, r3, r4⟩ := csc_l NF hNF hn hc c1 66 NF _ 0 (by clear h d5 d3; omega) d3 (by clear h d5 d3; omega) (by clear h d5 d3; omega)
            rw [if_pos c5, kk3]
            unfold X_cascade
            have r1' : X_cascade_l4 NF NF (sA (sA ob 5 (i5 o s p) (n32 (pN (gA ob 5) o s p - 1))) 3 (i3 p o s) 1) (n32 p) 0 0 = some (n32 (0 + c'), r) := r1
            rw [r1', bind2_some, Nat.zero_add]
            exact ⟨_, r, rfl, r2, Or.inr ⟨c1, o1, s1', s2, p1, Or.inr ⟨c', _, rfl, by clear h d5 d3; omega, c5, rfl, r3⟩⟩⟩
          · rw [if_neg c5]
            exact ⟨_, _, rfl, d5, Or.inr ⟨c1, o1, s1', s2, p1, Or.inl ⟨rfl, rfl⟩⟩⟩
      · rw [if_neg c3]; exact ⟨_, ob, rfl, h, Or.inl ⟨by decide, by decide, rfl⟩⟩
    · rw [ex_n h hn hc ho hs c2, Option.bind_some, if_pos rfl]; exact ⟨_, ob, rfl, h, Or.inl ⟨by decide, by decide, rfl⟩⟩
  · rw [if_neg c1, if_pos rfl]; exact ⟨_, ob, rfl, h, Or.inl ⟨by decide, by decide, rfl⟩⟩
/-- duplicate -/
theorem dup_e {ob : Rec} {n cap p o s : Nat} (h : DI ob n cap) (hn : n ≤ 8) (hc : cap ≤ 8) (hp : p < 100) (ho : o < 100) (hs : s < 100) :
    ∃ a r, X_duplicate ob (n32 o) (n32 s) (n32 p) = some (a, r) ∧ DI r n cap ∧
      ((a < 0 ∧ r = ob) ∨ (p < n ∧ o < n ∧ 1 ≤ s ∧ s ≤ sN (gA ob 0) o ∧ 0 < a ∧ pN (gA ob 5) o s p + 1 ≤ 3 ∧ r = sA ob 5 (i5 o s p) (n32 (pN (gA ob 5) o s p + 1)))) := by
  unfold X_duplicate
  by_cases c2 : o < n ∧ 1 ≤ s ∧ s ≤ sN (gA ob 0) o
  · obtain ⟨o1, s1', s2⟩ := c2
    have sS := (h.2.2.sS o o1).2
    rw [ex_y h hn hc o1 s1' s2, Option.bind_some, if_neg (by decide), vp_e h.1 hn hp, Option.bind_some]
    by_cases c1 : p < n
    · rw [if_pos c1, if_neg (by decide)]
      have hP := h.2.2.sP o s p o1 s1' (by clear h; omega) c1
      unfold X_copyIndex
      have kk : ∀ A : Option (Int32 × Rec), chk 512 (i5 o s p) A = A := fun A => k5 (by clear h; omega) s1' (by clear h; omega) (by clear h; omega)
      rw [Option.bind_some, e5 (by clear h; omega) s1' (by clear h; omega) (by clear h; omega), kk]
      by_cases c4 : gA ob 5 (i5 o s p) = 0
      · rw [if_pos c4]; exact ⟨_, ob, rfl, h, Or.inl ⟨by decide, rfl⟩⟩
      · rw [if_neg c4, kk]
        by_cases c5 : gA ob 5 (i5 o s p) < 3
        · have p3 : pN (gA ob 5) o s p < 3 := by
            have := hP.2.1
            rw [lt_i, hP.1, nt _ (by clear h; omega)] at c5
            have c5' : ((pN (gA ob 5) o s p : Nat) : Int) < 3 := c5
            clear h; omega
          rw [if_pos c5, kk, kk, kk, hP.1, n32_s (by clear h; omega), gA_u, up_s]
          exact ⟨_, _, rfl, DI_5 h hn hc o1 s1' s2 c1 (by clear h; omega), Or.inr ⟨c1, o1, s1', s2, by rw [lt_i, nt _ (by clear h; omega)]; show (0 : Int) < ((_ + 1 : Nat) : Int); clear h; omega, by clear h; omega, rfl⟩⟩
        · rw [if_neg c5]; exact ⟨_, ob, rfl, h, Or.inl ⟨by decide, rfl⟩⟩
    · rw [if_neg c1, if_pos rfl]; exact ⟨_, ob, rfl, h, Or.inl ⟨by decide, rfl⟩⟩
  · rw [ex_n h hn hc ho hs c2, Option.bind_some, if_pos rfl]; exact ⟨_, ob, rfl, h, Or.inl ⟨by decide, rfl⟩⟩
theorem drp_e {ob : Rec} {n cap p o s : Nat} (h : DI ob n cap) (hn : n ≤ 8) (hc : cap ≤ 8) (hp : p < 100) (ho : o < 100) (hs : s < 100) :
    ∃ a r, X_drop ob (n32 o) (n32 s) (n32 p) = some (a, r) ∧ DI r n cap ∧
      ((a < 0 ∧ r = ob) ∨ (p < n ∧ o < n ∧ 1 ≤ s ∧ s ≤ sN (gA ob 0) o ∧ ¬ a < 0 ∧ 1 ≤ pN (gA ob 5) o s p ∧ r = sA ob 5 (i5 o s p) (n32 (pN (gA ob 5) o s p - 1)))) := by
  unfold X_drop
  by_cases c2 : o < n ∧ 1 ≤ s ∧ s ≤ sN (gA ob 0) o
  · obtain ⟨o1, s1', s2⟩ := c2
    have sS := (h.2.2.sS o o1).2
    rw [ex_y h hn hc o1 s1' s2, Option.bind_some, if_neg (by decide), vp_e h.1 hn hp, Option.bind_some]
    by_cases c1 : p < n
    · rw [if_pos c1, if_neg (by decide)]
      have hP := h.2.2.sP o s p o1 s1' (by clear h; omega) c1
      unfold X_copyIndex
      have kk : ∀ A : Option (Int32 × Rec), chk 512 (i5 o s p) A = A := fun A => k5 (by clear h; omega) s1' (by clear h; omega) (by clear h; omega)
      rw [Option.bind_some, e5 (by clear h; omega) s1' (by clear h; omega) (by clear h; omega), kk]
      by_cases c4 : gA ob 5 (i5 o s p) = 0
      · rw [if_pos c4]; exact ⟨_, ob, rfl, h, Or.inl ⟨by decide, rfl⟩⟩
      · have p1 : 1 ≤ pN (gA ob 5) o s p := by
          have : ¬ pN (gA ob 5) o s p = 0 := fun z => c4 (by rw [hP.1, z]; rfl)
          clear h; omega
        have e5' : gA ob 5 (i5 o s p) - 1 = n32 (pN (gA ob 5) o s p - 1) := by
          rw [hP.1]
          obtain ⟨k, hk⟩ : ∃ k, pN (gA ob 5) o s p = k + 1 := ⟨pN (gA ob 5) o s p - 1, by clear h; omega⟩
          have := hP.2.1
          rw [hk, n32_p (by clear h; omega)]; rfl
        rw [if_neg c4, kk, kk, kk, e5', gA_u, up_s]
        have := hP.2.1
        exact ⟨_, _, rfl, DI_5 h hn hc o1 s1' s2 c1 (by clear h; omega), Or.inr ⟨c1, o1, s1', s2, nneg (n32_b (by clear h; omega)).1, p1, rfl⟩⟩
    · rw [if_neg c1, if_pos rfl]; exact ⟨_, ob, rfl, h, Or.inl ⟨by decide, rfl⟩⟩
  · rw [ex_n h hn hc ho hs c2, Option.bind_some, if_pos rfl]; exact ⟨_, ob, rfl, h, Or.inl ⟨by decide, rfl⟩⟩
theorem rtx_e {ob : Rec} {n cap q p o s : Nat} (h : DI ob n cap) (hn : n ≤ 8) (hc : cap ≤ 8) (hq : q < 100) (hp : p < 100) (ho : o < 100) (hs : s < 100) :
    ∃ a r, X_retransmit ob (n32 q) (n32 p) (n32 o) (n32 s) = some (a, r) ∧ DI r n cap ∧
      ((¬ a = 0 ∧ r = ob) ∨ (p < n ∧ o < n ∧ 1 ≤ s ∧ s ≤ sN (gA ob 0) o ∧ a = 0 ∧ pN (gA ob 5) o s p + 1 ≤ 3 ∧ r = sA ob 5 (i5 o s p) (n32 (pN (gA ob 5) o s p + 1)))) := by
  unfold X_retransmit
  rw [vp_e h.1 hn hq, Option.bind_some]
  by_cases c0 : q < n
  · rw [if_pos c0, if_neg (by decide), vp_e h.1 hn hp, Option.bind_some]
    by_cases c1 : p < n
    · rw [if_pos c1, if_neg (by decide)]
      by_cases ce : n32 q = n32 p
      · rw [if_pos ce]; exact ⟨_, ob, rfl, h, Or.inl ⟨by decide, rfl⟩⟩
      · rw [if_neg ce]
        by_cases c2 : o < n ∧ 1 ≤ s ∧ s ≤ sN (gA ob 0) o
        · obtain ⟨o1, s1', s2⟩ := c2
          have sS := (h.2.2.sS o o1).2
          rw [ex_y h hn hc o1 s1' s2, Option.bind_some, if_neg (by decide), kp (by clear h; omega)]
          by_cases l1 : gA ob 1 (n32 q) = 0
          · rw [if_pos l1, kp (by clear h; omega)]
            by_cases l2 : gA ob 1 (n32 p) = 0
            · rw [if_pos l2]
              unfold X_stateIndex X_copyIndex
              rw [Option.bind_some, e3 (by clear h; omega) (by clear h; omega) s1' (by clear h; omega), k3 (by clear h; omega) (by clear h; omega) s1' (by clear h; omega)]
              by_cases l3 : gA ob 3 (i3 q o s) = 2
              · have hP := h.2.2.sP o s p o1 s1' (by clear h; omega) c1
                have kk : ∀ A : Option (Int32 × Rec), chk 512 (i5 o s p) A = A := fun A => k5 (by clear h; omega) s1' (by clear h; omega) (by clear h; omega)
                rw [if_pos l3, Option.bind_some, e5 (by clear h; omega) s1' (by clear h; omega) (by clear h; omega), kk]
                by_cases c5 : gA ob 5 (i5 o s p) < 3
                · have p3 : pN (gA ob 5) o s p < 3 := by
                    have := hP.2.1
                    rw [lt_i, hP.1, nt _ (by clear h; omega)] at c5
                    have c5' : ((pN (gA ob 5) o s p : Nat) : Int) < 3 := c5
                    clear h; omega
                  rw [if_pos c5, kk, kk, hP.1, n32_s (by clear h; omega)]
                  exact ⟨_, _, rfl, DI_5 h hn hc o1 s1' s2 c1 (by clear h; omega), Or.inr ⟨c1, o1, s1', s2, rfl, by clear h; omega, rfl⟩⟩
                · rw [if_neg c5]; exact ⟨_, ob, rfl, h, Or.inl ⟨by decide, rfl⟩⟩
              · rw [if_neg l3]; exact ⟨_, ob, rfl, h, Or.inl ⟨by decide, rfl⟩⟩
            · rw [if_neg l2]; exact ⟨_, ob, rfl, h, Or.inl ⟨by decide, rfl⟩⟩
          · rw [if_neg l1]; exact ⟨_, ob, rfl, h, Or.inl ⟨by decide, rfl⟩⟩
        · rw [ex_n h hn hc ho hs c2, Option.bind_some, if_pos rfl]; exact ⟨_, ob, rfl, h, Or.inl ⟨by decide, rfl⟩⟩
    · rw [if_neg c1, if_pos rfl]; exact ⟨_, ob, rfl, h, Or.inl ⟨by decide, rfl⟩⟩
  · rw [if_neg c0, if_pos rfl]; exact ⟨_, ob, rfl, h, Or.inl ⟨by decide, rfl⟩⟩
/-- only what is known changes -/
theorem DI_6 {ob : Rec} {n cap p q o : Nat} {v : Nat} (h : DI ob n cap) (hn : n ≤ 8) (hc : cap ≤ 8) (hp : p < n) (hq : q < n) (ho : o < n) (hv : v ≤ dN (gA ob 2) q o) (hpq : ¬ q = p) : DI (sA ob 6 (i6 p q o) (n32 v)) n cap := by
  obtain ⟨g0, g1, a, b, c, d, e, f, g, k, l, m⟩ := h
  have sS := (a o ho).2
  have sD := (c q o hq ho).2
  refine ⟨g0, g1, ?_⟩
  rw [gA_n _ (show ¬ 0 = 6 by decide), gA_n _ (show ¬ 1 = 6 by decide), gA_n _ (show ¬ 2 = 6 by decide), gA_n _ (show ¬ 3 = 6 by decide), gA_n _ (show ¬ 4 = 6 by decide), gA_n _ (show ¬ 5 = 6 by decide), gA_u, gA_n _ (show ¬ 7 = 6 by decide), gA_n _ (show ¬ 8 = 6 by decide)]
  refine ⟨a, b, c, d, e, f, fun x y u hx hy hu => ?_, k, l, m⟩
  have hh := g x y u hx hy hu
  have same : kwN (up (gA ob 6) (i6 p q o) (n32 v)) x x u = kwN (gA ob 6) x x u := by
    unfold kwN
    rw [up_o (i6_ne (by omega) (by omega) (by omega) (by omega) (by omega) (by omega) (fun z => hpq (z.2.1.symm.trans z.1)))]
  rw [same]
  by_cases z : x = p ∧ y = q ∧ u = o
  · obtain ⟨z1, z2, z3⟩ := z
    have kk : kwN (up (gA ob 6) (i6 p q o) (n32 v)) p q o = v := by unfold kwN; rw [up_s, nt v (by omega)]; rfl
    refine ⟨?_, ?_, hh.2.2⟩
    · rw [z1, z2, z3, kk, up_s]
    · rw [z1, z2, z3, kk]; exact hv
  · have kk : (up (gA ob 6) (i6 p q o) (n32 v)) (i6 x y u) = gA ob 6 (i6 x y u) := up_o (i6_ne (by omega) (by omega) (by omega) (by omega) (by omega) (by omega) z)
    have kk' : kwN (up (gA ob 6) (i6 p q o) (n32 v)) x y u = kwN (gA ob 6) x y u := by unfold kwN; rw [kk]
    rw [kk, kk']; exact hh
abbrev G6 (ob r : Rec) : Prop := (∀ j, gI r j = gI ob j) ∧ ∀ j, ¬ j = 6 → gA r j = gA ob j
theorem gos_l (NF : Nat) (hNF : 200 < NF) {n cap p q : Nat} (hn : n ≤ 8) (hc : cap ≤ 8) (hp : p < n) (hq : q < n) (hpq : ¬ p = q) : ∀ (m fuel : Nat) (ob : Rec) (i : Nat), m < fuel → i ≤ n → n - i ≤ m → DI ob n cap →
    ∃ r, X_gossip_l46 NF fuel ob (n32 p) (n32 q) (n32 i) = some (0, r) ∧ DI r n cap ∧ G6 ob r := by
  have stop : ∀ (kk) (ob : Rec), DI ob n cap → X_gossip_w46 NF kk ob (n32 p) (n32 q) (n32 n) = some (0, ob) := by
    intro kk ob h
    unfold X_gossip_w46
    rw [h.1, if_neg (by rw [lt_i]; clear h; omega)]
  intro m
  induction m with
  | zero =>
    intro fuel ob i hf hi hm h
    obtain ⟨g, rfl⟩ : ∃ g, fuel = g + 1 := ⟨fuel - 1, by clear h; omega⟩
    have e : i = n := by clear h; omega
    rw [e]
    exact ⟨ob, stop _ ob h, h, fun _ => rfl, fun _ _ => rfl⟩
  | succ m ih =>
    intro fuel ob i hf hi hm h
    obtain ⟨g, rfl⟩ : ∃ g, fuel = g + 1 := ⟨fuel - 1, by clear h; omega⟩
    by_cases e : i = n
    · rw [e]
      exact ⟨ob, stop _ ob h, h, fun _ => rfl, fun _ _ => rfl⟩
    · have hin : i < n := by clear h; omega
      have inner : ∀ (k f2 : Nat) (ob : Rec) (j : Nat), k < f2 → j ≤ n → n - j ≤ k → DI ob n cap → ∃ r, X_gossip_l57 NF (X_gossip_l46 NF g) f2 ob (n32 p) (n32 q) (n32 i) (n32 j) = some (0, r) ∧ DI r n cap ∧ G6 ob r := by
        have stop2 : ∀ (kk) (ob : Rec), DI ob n cap → ∃ r, X_gossip_w57 NF (X_gossip_l46 NF g) kk ob (n32 p) (n32 q) (n32 i) (n32 n) = some (0, r) ∧ DI r n cap ∧ G6 ob r := by
          intro kk ob h
          unfold X_gossip_w57
          rw [h.1, if_neg (by rw [lt_i]; clear h; omega), n32_s (by clear h; omega)]
          exact ih g ob (i + 1) (by clear h; omega) (by clear h; omega) (by clear h; omega) h
        intro k
        induction k with
        | zero =>
          intro f2 ob j hf2 hj hk h
          obtain ⟨g2, rfl⟩ : ∃ g2, f2 = g2 + 1 := ⟨f2 - 1, by clear h; omega⟩
          have e : j = n := by clear h; omega
          rw [e]; exact stop2 _ ob h
        | succ k ihk =>
          intro f2 ob j hf2 hj hk h
          obtain ⟨g2, rfl⟩ : ∃ g2, f2 = g2 + 1 := ⟨f2 - 1, by clear h; omega⟩
          by_cases e : j = n
          · rw [e]; exact stop2 _ ob h
          · have hjn : j < n := by clear h; omega
            show ∃ r, X_gossip_w57 NF (X_gossip_l46 NF g) (X_gossip_l57 NF (X_gossip_l46 NF g) g2) ob (n32 p) (n32 q) (n32 i) (n32 j) = _ ∧ _
            unfold X_gossip_w57
            have q1 : ∀ A : Option (Int32 × Rec), chk 512 (i6 p i j) A = A := fun A => k6 (by clear h; omega) (by clear h; omega) (by clear h; omega)
            have q2 : ∀ A : Option (Int32 × Rec), chk 512 (i6 q i j) A = A := fun A => k6 (by clear h; omega) (by clear h; omega) (by clear h; omega)
            rw [h.1, if_pos ((n32_lt (by clear h; omega) (by clear h; omega)).mpr hjn), e6 (by clear h; omega) (by clear h; omega) (by clear h; omega), e6 (by clear h; omega) (by clear h; omega) (by clear h; omega), q1, q2, n32_s (by clear h; omega)]
            have hp1 := h.2.2.sK p i j hp hin hjn
            have hq1 := h.2.2.sK q i j hq hin hjn
            have hD := (h.2.2.sD i j hin hjn).2
            have hS := (h.2.2.sS j hjn).2
            by_cases d : gA ob 6 (i6 q i j) < gA ob 6 (i6 p i j)
            · rw [if_pos d, q1, q2, hp1.1]
              have ne : ¬ i = q := by
                intro z
                have a1 := hp1.2.1
                have a2 := hq1.2.2
                rw [hp1.1, hq1.1, n32_lt (by have := hq1.2.1; clear h; omega) (by clear h; omega)] at d
                rw [z] at d a1
                clear h; omega
              have d6 := DI_6 h hn hc hq hin hjn hp1.2.1 ne
              obtain ⟨r, r1, r2, r3, r4⟩ := ihk g2 _ (j + 1) (by clear h d6; omega) (by clear h d6; omega) (by clear h d6; omega) d6
              exact ⟨r, r1, r2, r3, fun j hj => (r4 j hj).trans (gA_n _ hj _ _)⟩
            · rw [if_neg d]
              exact ihk g2 ob (j + 1) (by clear h; omega) (by clear h; omega) (by clear h; omega) h
      show ∃ r, X_gossip_w46 NF (X_gossip_l46 NF g) ob (n32 p) (n32 q) (n32 i) = _ ∧ _
      unfold X_gossip_w46
      rw [h.1, if_pos ((n32_lt (by clear h; omega) (by clear h; omega)).mpr hin)]
      exact inner 20 NF ob 0 (by clear h; omega) (by clear h; omega) (by clear h; omega) h
theorem gos_e (NF : Nat) (hNF : 200 < NF) {ob : Rec} {n cap p q : Nat} (h : DI ob n cap) (hn : n ≤ 8) (hc : cap ≤ 8) (hp : p < 100) (hq : q < 100) :
    ∃ a r, X_gossip NF ob (n32 p) (n32 q) = some (a, r) ∧ DI r n cap ∧ G6 ob r := by
  have no : ∀ a : Int32, ∃ b r, some (a, ob) = some (b, r) ∧ DI r n cap ∧ G6 ob r := fun a => ⟨a, ob, rfl, h, fun _ => rfl, fun _ _ => rfl⟩
  unfold X_gossip
  rw [vp_e h.1 hn hp, Option.bind_some]
  by_cases c0 : p < n
  · rw [if_pos c0, if_neg (by decide), vp_e h.1 hn hq, Option.bind_some]
    by_cases c1 : q < n
    · rw [if_pos c1, if_neg (by decide)]
      by_cases ce : p = q
      · rw [if_pos (by rw [ce])]; exact no _
      · rw [if_neg (i1_ne (by clear h; omega) (by clear h; omega) ce), kp (by clear h; omega)]
        by_cases l1 : gA ob 1 (n32 p) = 0
        · rw [if_pos l1, kp (by clear h; omega)]
          by_cases l2 : gA ob 1 (n32 q) = 0
          · rw [if_pos l2]
            obtain ⟨r, r1, r2⟩ := gos_l NF hNF hn hc c0 c1 ce 20 NF ob 0 (by clear h; omega) (by clear h; omega) (by clear h; omega) h
            exact ⟨_, r, r1, r2⟩
          · rw [if_neg l2]; exact no _
        · rw [if_neg l1]; exact no _
    · rw [if_neg c1, if_pos rfl]; exact no _
  · rw [if_neg c0, if_pos rfl]; exact no _
/-- a state pruned -/
theorem DI_p {ob : Rec} {n cap x o s : Nat} (h : DI ob n cap) (hn : n ≤ 8) (hc : cap ≤ 8) (hx : x < n) (ho : o < n) (h1 : 1 ≤ s) (h2 : s ≤ sN (gA ob 0) o) (hz : gA ob 3 (i3 x o s) = 2) (hs : ∀ r, r < n → gA ob 1 (n32 r) = 0 → s ≤ dN (gA ob 2) r o) : DI (sA ob 3 (i3 x o s) 3) n cap := by
  obtain ⟨g0, g1, a, b, c, d, e, f, g, k, l, m⟩ := h
  have sS := (a o ho).2
  refine ⟨g0, g1, ?_⟩
  rw [gA_n _ (show ¬ 0 = 3 by decide), gA_n _ (show ¬ 1 = 3 by decide), gA_n _ (show ¬ 2 = 3 by decide), gA_u, gA_n _ (show ¬ 4 = 3 by decide), gA_n _ (show ¬ 5 = 3 by decide), gA_n _ (show ¬ 6 = 3 by decide), gA_n _ (show ¬ 7 = 3 by decide), gA_n _ (show ¬ 8 = 3 by decide)]
  refine ⟨a, b, c, d, fun y u t hy hu t1 t2 => ?_, f, g, k, l, fun w u t hw hu t1 t2 z r hr hr1 => ?_⟩
  · by_cases z : y = x ∧ u = o ∧ t = s
    · obtain ⟨z1, z2, z3⟩ := z
      rw [z1, z2, z3]
      have hh := e x o s hx ho h1 (by omega)
      have tt : tS (up (gA ob 3) (i3 x o s) 3) x o s = 3 := up_s _ _ _
      rw [tt]
      refine ⟨Or.inr (Or.inr (Or.inr rfl)), ⟨fun w => hh.2.1.mp (Or.inl hz), fun w => Or.inr rfl⟩, fun w => by omega⟩
    · have tt : tS (up (gA ob 3) (i3 x o s) 3) y u t = tS (gA ob 3) y u t := up_o (i3_ne (by omega) (by omega) ⟨t1, t2⟩ (by omega) (by omega) ⟨h1, by omega⟩ z)
      rw [tt]; exact e y u t hy hu t1 t2
  · by_cases y : w = x ∧ u = o ∧ t = s
    · obtain ⟨z1, z2, z3⟩ := y
      rw [z2, z3]; exact hs r hr hr1
    · have tt : tS (up (gA ob 3) (i3 x o s) 3) w u t = tS (gA ob 3) w u t := up_o (i3_ne (by omega) (by omega) ⟨t1, t2⟩ (by omega) (by omega) ⟨h1, by omega⟩ y)
      rw [tt] at z
      exact m w u t hw hu t1 t2 z r hr hr1
theorem ist_l (NF : Nat) {ob : Rec} {n cap x o s : Nat} (h : DI ob n cap) (hn : n ≤ 8) (hc : cap ≤ 8) (hx : x < n) (ho : o < n) (hs : s ≤ 8) : ∀ (m fuel i : Nat), m < fuel → i ≤ n → n - i ≤ m → (∀ r, r < i → gA ob 1 (n32 r) = 0 → s ≤ dN (gA ob 2) r o) →
    X_isStable_l3 NF ob fuel (n32 x) (n32 o) (n32 s) (n32 i) = some 0 ∨ (X_isStable_l3 NF ob fuel (n32 x) (n32 o) (n32 s) (n32 i) = some 1 ∧ ∀ r, r < n → gA ob 1 (n32 r) = 0 → s ≤ dN (gA ob 2) r o) := by
  intro m
  induction m with
  | zero =>
    intro fuel i hf hi hm hq
    obtain ⟨g, rfl⟩ : ∃ g, fuel = g + 1 := ⟨fuel - 1, by clear h; omega⟩
    have e : i = n := by clear h; omega
    right
    refine ⟨?_, by rw [← e]; exact hq⟩
    show X_isStable_w3 NF ob _ _ _ _ _ = _
    unfold X_isStable_w3
    rw [h.1, if_neg (fun z => by rw [n32_lt (by clear h; omega) (by clear h; omega)] at z; clear h; omega)]
  | succ m ih =>
    intro fuel i hf hi hm hq
    obtain ⟨g, rfl⟩ : ∃ g, fuel = g + 1 := ⟨fuel - 1, by clear h; omega⟩
    show X_isStable_w3 NF ob (X_isStable_l3 NF ob g) _ _ _ _ = _ ∨ (X_isStable_w3 NF ob (X_isStable_l3 NF ob g) _ _ _ _ = _ ∧ _)
    unfold X_isStable_w3
    rw [h.1]
    by_cases e : i = n
    · right
      rw [if_neg (fun z => by rw [n32_lt (by clear h; omega) (by clear h; omega)] at z; clear h; omega)]
      exact ⟨rfl, by rw [← e]; exact hq⟩
    · have hin : i < n := by clear h; omega
      rw [if_pos ((n32_lt (by clear h; omega) (by clear h; omega)).mpr hin), n32_s (by clear h; omega), kp (by clear h; omega)]
      have nx := fun hq' => ih g (i + 1) (by clear h; omega) (by clear h; omega) (by clear h; omega) hq'
      by_cases c : gA ob 1 (n32 i) = 0
      · rw [if_pos c]
        unfold X_knownIndex
        rw [Option.bind_some, e6 (by clear h; omega) (by clear h; omega) (by clear h; omega), k6 (by clear h; omega) (by clear h; omega) (by clear h; omega)]
        have hk := h.2.2.sK x i o hx hin ho
        have hk2 := hk.2.1
        have hD := (h.2.2.sD i o hin ho).2
        have hS := (h.2.2.sS o ho).2
        by_cases d : gA ob 6 (i6 x i o) < n32 s
        · left; rw [if_pos d]
        · rw [if_neg d]
          refine nx (fun q z w => ?_)
          by_cases e' : q = i
          · rw [e']
            rw [hk.1, n32_lt (by clear h; omega) (by clear h; omega)] at d
            clear h; omega
          · exact hq q (by clear h; omega) w
      · rw [if_neg c]
        refine nx (fun q z w => ?_)
        by_cases e' : q = i
        · rw [e'] at w; exact absurd w c
        · exact hq q (by clear h; omega) w
/-- what a prune leaves -/
abbrev G3 (ob r : Rec) : Prop := (∀ j, gI r j = gI ob j) ∧ ∀ j, ¬ j = 3 → gA r j = gA ob j
theorem prn_l (NF : Nat) (hNF : 200 < NF) {n cap p : Nat} (hn : n ≤ 8) (hc : cap ≤ 8) (hp : p < n) (pc : Fn → Nat) (hpc : ∀ a o s, o < n → 1 ≤ s → s ≤ cap → a (i3 p o s) = 2 → pc (up a (i3 p o s) 3) = pc a + 1) : ∀ (m fuel : Nat) (ob : Rec) (c i : Nat), m < fuel → i ≤ n → n - i ≤ m → c ≤ i * 8 → DI ob n cap →
    ∃ r c', X_prune_l26 NF fuel ob (n32 p) (n32 c) (n32 i) = some (n32 (c + c'), r) ∧ c + c' ≤ 64 ∧ DI r n cap ∧ G3 ob r ∧ pc (gA r 3) = pc (gA ob 3) + c' := by
  have stop : ∀ (kk) (ob : Rec) (c : Nat), DI ob n cap → X_prune_w26 NF kk ob (n32 p) (n32 c) (n32 n) = some (n32 c, ob) := by
    intro kk ob c h
    unfold X_prune_w26
    rw [h.1, if_neg (by rw [lt_i]; clear h; omega)]
  intro m
  induction m with
  | zero =>
    intro fuel ob c i hf hi hm hci h
    obtain ⟨g, rfl⟩ : ∃ g, fuel = g + 1 := ⟨fuel - 1, by clear h; omega⟩
    have e : i = n := by clear h; omega
    rw [e]
    exact ⟨ob, 0, stop _ ob c h, by clear h; omega, h, ⟨fun _ => rfl, fun _ _ => rfl⟩, rfl⟩
  | succ m ih =>
    intro fuel ob c i hf hi hm hci h
    obtain ⟨g, rfl⟩ : ∃ g, fuel = g + 1 := ⟨fuel - 1, by clear h; omega⟩
    by_cases e : i = n
    · rw [e]
      exact ⟨ob, 0, stop _ ob c h, by clear h; omega, h, ⟨fun _ => rfl, fun _ _ => rfl⟩, rfl⟩
    · have hin : i < n := by clear h; omega
      have inner : ∀ (k f2 : Nat) (ob : Rec) (c j : Nat), k < f2 → 1 ≤ j → j ≤ sN (gA ob 0) i + 1 → sN (gA ob 0) i + 1 - j ≤ k → c ≤ i * 8 + (j - 1) → DI ob n cap →
          ∃ r c', X_prune_l45 NF (X_prune_l26 NF g) f2 ob (n32 p) (n32 c) (n32 i) (n32 (sN (gA ob 0) i)) (n32 j) = some (n32 (c + c'), r) ∧ c + c' ≤ 64 ∧ DI r n cap ∧ G3 ob r ∧ pc (gA r 3) = pc (gA ob 3) + c' := by
        have stop2 : ∀ (kk) (ob : Rec) (c : Nat), c ≤ i * 8 + sN (gA ob 0) i → DI ob n cap → ∃ r c', X_prune_w45 NF (X_prune_l26 NF g) kk ob (n32 p) (n32 c) (n32 i) (n32 (sN (gA ob 0) i)) (n32 (sN (gA ob 0) i + 1)) = some (n32 (c + c'), r) ∧ c + c' ≤ 64 ∧ DI r n cap ∧ G3 ob r ∧ pc (gA r 3) = pc (gA ob 3) + c' := by
          intro kk ob c hcc h
          have hS := (h.2.2.sS i hin).2
          unfold X_prune_w45
          rw [if_pos ((n32_lt (by clear h; omega) (by clear h; omega)).mpr (by clear h; omega)), n32_s (by clear h; omega)]
          exact ih g ob c (i + 1) (by clear h; omega) (by clear h; omega) (by clear h; omega) (by clear h; omega) h
        intro k
        induction k with
        | zero =>
          intro f2 ob c j hf2 j1 j2 hk hcc h
          obtain ⟨g2, rfl⟩ : ∃ g2, f2 = g2 + 1 := ⟨f2 - 1, by clear h; omega⟩
          have e : j = sN (gA ob 0) i + 1 := by clear h; omega
          rw [e]; exact stop2 _ ob c (by clear h; omega) h
        | succ k ihk =>
          intro f2 ob c j hf2 j1 j2 hk hcc h
          obtain ⟨g2, rfl⟩ : ∃ g2, f2 = g2 + 1 := ⟨f2 - 1, by clear h; omega⟩
          by_cases e : j = sN (gA ob 0) i + 1
          · rw [e]; exact stop2 _ ob c (by clear h; omega) h
          · have hS := (h.2.2.sS i hin).2
            have js : j ≤ sN (gA ob 0) i := by clear h; omega
            show ∃ r c', X_prune_w45 NF (X_prune_l26 NF g) (X_prune_l45 NF (X_prune_l26 NF g) g2) ob (n32 p) (n32 c) (n32 i) (n32 (sN (gA ob 0) i)) (n32 j) = _ ∧ _
            unfold X_prune_w45 X_stateIndex
            have kk3 : ∀ A : Option (Int32 × Rec), chk 512 (i3 p i j) A = A := fun A => k3 (by clear h; omega) (by clear h; omega) j1 (by clear h; omega)
            rw [if_neg (fun z => by rw [n32_lt (by clear h; omega) (by clear h; omega)] at z; clear h; omega), if_neg (by rw [lt_i, nt j (by clear h; omega)]; show ¬ (8 : Int) < j; clear h; omega), Option.bind_some, e3 (by clear h; omega) (by clear h; omega) j1 (by clear h; omega), kk3, n32_s (by clear h; omega)]
            by_cases d : gA ob 3 (i3 p i j) = 2
            · rw [if_pos d]
              unfold X_isStable
              rcases ist_l NF h hn hc hp hin (show j ≤ 8 by clear h; omega) 20 NF 0 (by clear h; omega) (by clear h; omega) (by clear h; omega) (fun r z => absurd z (by omega)) with w | ⟨w1, w2⟩
              · have w' : X_isStable_l3 NF ob NF (n32 p) (n32 i) (n32 j) 0 = some 0 := w
                rw [w', Option.bind_some, if_pos rfl]
                exact ihk g2 ob c (j + 1) (by clear h; omega) (by clear h; omega) (by clear h; omega) (by clear h; omega) (by clear h; omega) h
              · have w' : X_isStable_l3 NF ob NF (n32 p) (n32 i) (n32 j) 0 = some 1 := w1
                rw [w', Option.bind_some, if_neg (by decide), kk3, n32_s (by clear h; omega)]
                have dp := DI_p h hn hc hp hin j1 js d w2
                have e0 : gA (sA ob 3 (i3 p i j) 3) 0 = gA ob 0 := gA_n _ (by decide) _ _
                have nx := ihk g2 (sA ob 3 (i3 p i j) 3) (c + 1) (j + 1) (by clear h dp; omega) (by clear h dp; omega) (by rw [e0]; clear h dp; omega) (by rw [e0]; clear h dp; omega) (by clear h dp; omega) dp
                rw [e0] at nx
                obtain ⟨r, c', r1, r2, r3, r4, r5⟩ := nx
                refine ⟨r, 1 + c', ?_, by clear h dp r3; omega, r3, ⟨r4.1, fun j hj => (r4.2 j hj).trans (gA_n _ hj _ _)⟩, ?_⟩
                · rw [r1, Nat.add_assoc]
                · rw [r5, gA_u, hpc _ i j hin j1 (by clear h dp r3; omega) d]; clear h dp r3; omega
            · rw [if_neg d]
              exact ihk g2 ob c (j + 1) (by clear h; omega) (by clear h; omega) (by clear h; omega) (by clear h; omega) (by clear h; omega) h
      have hS := h.2.2.sS i hin
      show ∃ r c', X_prune_w26 NF (X_prune_l26 NF g) ob (n32 p) (n32 c) (n32 i) = _ ∧ _
      unfold X_prune_w26
      rw [h.1, if_pos ((n32_lt (by clear h; omega) (by clear h; omega)).mpr hin), kp (by clear h; omega), hS.1]
      have hS2 := hS.2
      exact inner 20 NF ob c 1 (by clear h; omega) (by clear h; omega) (by clear h; omega) (by clear h; omega) (by clear h; omega) h
theorem prn_e (NF : Nat) (hNF : 200 < NF) {ob : Rec} {n cap p : Nat} (h : DI ob n cap) (hn : n ≤ 8) (hc : cap ≤ 8) (hp : p < 100) (pc : Fn → Nat) (hpc : ∀ x a o s, x < n → o < n → 1 ≤ s → s ≤ cap → a (i3 x o s) = 2 → pc (up a (i3 x o s) 3) = pc a + 1) :
    ∃ a r, X_prune NF ob (n32 p) = some (a, r) ∧ DI r n cap ∧ ((a < 0 ∧ r = ob) ∨ ∃ c, a = n32 c ∧ c ≤ 64 ∧ G3 ob r ∧ pc (gA r 3) = pc (gA ob 3) + c) := by
  unfold X_prune
  rw [vp_e h.1 hn hp, Option.bind_some]
  by_cases c0 : p < n
  · rw [if_pos c0, if_neg (by decide), kp (by clear h; omega)]
    by_cases l1 : gA ob 1 (n32 p) = 0
    · obtain ⟨r, c', r1, r2, r3, r4, r5⟩ := prn_l NF hNF hn hc c0 pc (fun a o s => hpc p a o s c0) 20 NF ob 0 0 (by clear h; omega) (by clear h; omega) (by clear h; omega) (by clear h; omega) h
      have r1' : X_prune_l26 NF NF ob (n32 p) 0 0 = some (n32 (0 + c'), r) := r1
      rw [if_pos l1, r1', Nat.zero_add]
      exact ⟨_, r, rfl, r3, Or.inr ⟨c', rfl, by clear h r3; omega, r4, r5⟩⟩
    · rw [if_neg l1]; exact ⟨_, ob, rfl, h, Or.inl ⟨by decide, rfl⟩⟩
  · rw [if_neg c0, if_pos rfl]; exact ⟨_, ob, rfl, h, Or.inl ⟨by decide, rfl⟩⟩
/-- crash -/
theorem oac_l (NF : Nat) {ob : Rec} {n p : Nat} (h0 : gI ob 0 = n32 n) (hn : n ≤ 8) (hp : p < n) : ∀ (m fuel i : Nat), m < fuel → i ≤ n → n - i ≤ m →
    (X_othersAllCrashed_l2 NF ob fuel (n32 p) (n32 i) = some 0 ∧ ∃ q, q < n ∧ ¬ q = p ∧ gA ob 1 (n32 q) = 0) ∨ X_othersAllCrashed_l2 NF ob fuel (n32 p) (n32 i) = some 1 := by
  intro m
  induction m with
  | zero =>
    intro fuel i hf hi hm
    obtain ⟨g, rfl⟩ : ∃ g, fuel = g + 1 := ⟨fuel - 1, by omega⟩
    right
    show X_othersAllCrashed_w2 NF ob _ _ _ = _
    unfold X_othersAllCrashed_w2
    rw [h0, if_neg (fun z => by rw [n32_lt (by omega) (by omega)] at z; omega)]
  | succ m ih =>
    intro fuel i hf hi hm
    obtain ⟨g, rfl⟩ : ∃ g, fuel = g + 1 := ⟨fuel - 1, by omega⟩
    show (X_othersAllCrashed_w2 NF ob (X_othersAllCrashed_l2 NF ob g) _ _ = _ ∧ _) ∨ X_othersAllCrashed_w2 NF ob (X_othersAllCrashed_l2 NF ob g) _ _ = _
    unfold X_othersAllCrashed_w2
    rw [h0]
    by_cases e : i = n
    · right
      rw [if_neg (fun z => by rw [n32_lt (by omega) (by omega)] at z; omega)]
    · rw [if_pos ((n32_lt (by omega) (by omega)).mpr (by omega)), n32_s (by omega)]
      by_cases c : i = p
      · rw [if_pos (by rw [c])]; exact ih g (i + 1) (by omega) (by omega) (by omega)
      · rw [if_neg (i1_ne (by omega) (by omega) c), kp (by omega)]
        by_cases d : gA ob 1 (n32 i) = 0
        · left; rw [if_pos d]; exact ⟨rfl, i, by omega, c, d⟩
        · rw [if_neg d]; exact ih g (i + 1) (by omega) (by omega) (by omega)
theorem crs_e (NF : Nat) (hNF : 200 < NF) {ob : Rec} {n cap p : Nat} (h : DI ob n cap) (hn : n ≤ 8) (hc : cap ≤ 8) (hp : p < 100) :
    ∃ a r, X_crash NF ob (n32 p) = some (a, r) ∧ DI r n cap ∧ ((¬ a = 0 ∧ r = ob) ∨ (a = 0 ∧ p < n ∧ r = sA ob 1 (n32 p) 1 ∧ ∃ q, q < n ∧ ¬ q = p ∧ gA ob 1 (n32 q) = 0)) := by
  unfold X_crash
  rw [vp_e h.1 hn hp, Option.bind_some]
  by_cases c0 : p < n
  · rw [if_pos c0, if_neg (by decide), kp (by clear h; omega)]
    by_cases l1 : gA ob 1 (n32 p) = 0
    · rw [if_pos l1]
      unfold X_othersAllCrashed
      rcases oac_l NF h.1 hn c0 20 NF 0 (by clear h; omega) (by clear h; omega) (by clear h; omega) with ⟨w, q⟩ | w
      · have w' : X_othersAllCrashed_l2 NF ob NF (n32 p) 0 = some 0 := w
        rw [w', Option.bind_some, if_pos rfl, kp (by clear h; omega)]
        refine ⟨_, _, rfl, ?_, Or.inr ⟨rfl, c0, rfl, q⟩⟩
        obtain ⟨g0, g1, a, b, c, d, e, f, g, k, l, m⟩ := h
        refine ⟨g0, g1, ?_⟩
        rw [gA_n _ (show ¬ 0 = 1 by decide), gA_u, gA_n _ (show ¬ 2 = 1 by decide), gA_n _ (show ¬ 3 = 1 by decide), gA_n _ (show ¬ 4 = 1 by decide), gA_n _ (show ¬ 5 = 1 by decide), gA_n _ (show ¬ 6 = 1 by decide), gA_n _ (show ¬ 7 = 1 by decide), gA_n _ (show ¬ 8 = 1 by decide)]
        refine ⟨a, fun y hy => ?_, c, d, e, f, g, k, l, fun w u t hw hu t1 t2 z r hr hr1 => m w u t hw hu t1 t2 z r hr ?_⟩
        · by_cases z : y = p
          · rw [z, up_s]; exact Or.inr rfl
          · rw [up_o (i1_ne (by omega) (by omega) z)]; exact b y hy
        · by_cases z : r = p
          · rw [z, up_s] at hr1; exact absurd hr1 (by decide)
          · rw [up_o (i1_ne (by omega) (by omega) z)] at hr1; exact hr1
      · have w' : X_othersAllCrashed_l2 NF ob NF (n32 p) 0 = some 1 := w
        rw [w', Option.bind_some, if_neg (by decide)]; exact ⟨_, ob, rfl, h, Or.inl ⟨by decide, rfl⟩⟩
    · rw [if_neg l1]; exact ⟨_, ob, rfl, h, Or.inl ⟨by decide, rfl⟩⟩
  · rw [if_neg c0, if_pos rfl]; exact ⟨_, ob, rfl, h, Or.inl ⟨by decide, rfl⟩⟩
theorem b125 (NF : Nat) {n p s : Nat} (hn : n ≤ 8) (hp : p < n) (h1 : 1 ≤ s) (h2 : s ≤ 8) (a : Int32) : ∀ (m fuel : Nat) (ob : Rec) (i : Nat), m < fuel → i ≤ n → n - i ≤ m → gI ob 0 = n32 n →
    ∃ r, X_broadcast_l125 NF fuel ob (n32 p) a (n32 (p * 8 + s - 1)) (n32 i) = some (a, r) ∧ (∀ j, gI r j = gI ob j) ∧ (∀ j, ¬ j = 5 → gA r j = gA ob j) ∧ (∀ q, i ≤ q → q < n → gA r 5 (i5 p s q) = if q = p then 0 else 1) ∧ (∀ u t q, u < 8 → 1 ≤ t → t ≤ 8 → q < 8 → ¬ (u = p ∧ t = s ∧ i ≤ q ∧ q < n) → gA r 5 (i5 u t q) = gA ob 5 (i5 u t q)) := by
  intro m
  induction m with
  | zero =>
    intro fuel ob i hf hi hm h0
    obtain ⟨g, rfl⟩ : ∃ g, fuel = g + 1 := ⟨fuel - 1, by omega⟩
    refine ⟨ob, ?_, fun _ => rfl, fun _ _ => rfl, fun q a b => by omega, fun _ _ _ _ _ _ _ _ => rfl⟩
    show X_broadcast_w125 NF _ ob _ _ _ _ = _
    unfold X_broadcast_w125
    rw [h0, if_neg (fun z => by rw [n32_lt (by omega) (by omega)] at z; omega)]
  | succ m ih =>
    intro fuel ob i hf hi hm h0
    obtain ⟨g, rfl⟩ : ∃ g, fuel = g + 1 := ⟨fuel - 1, by omega⟩
    show ∃ r, X_broadcast_w125 NF (X_broadcast_l125 NF g) ob _ _ _ _ = _ ∧ _
    unfold X_broadcast_w125
    rw [h0]
    by_cases e : i = n
    · rw [if_neg (fun z => by rw [n32_lt (by omega) (by omega)] at z; omega)]
      exact ⟨ob, rfl, fun _ => rfl, fun _ _ => rfl, fun q a b => by omega, fun _ _ _ _ _ _ _ _ => rfl⟩
    · have q1 : ∀ A : Option (Int32 × Rec), chk 512 (i5 p s i) A = A := fun A => k5 (by omega) h1 h2 (by omega)
      have nx : ∀ v : Int32, v = (if i = p then 0 else 1) → ∃ r, X_broadcast_l125 NF g (sA ob 5 (i5 p s i) v) (n32 p) a (n32 (p * 8 + s - 1)) (n32 (i + 1)) = some (a, r) ∧ (∀ j, gI r j = gI ob j) ∧ (∀ j, ¬ j = 5 → gA r j = gA ob j) ∧ (∀ q, i ≤ q → q < n → gA r 5 (i5 p s q) = if q = p then 0 else 1) ∧ (∀ u t q, u < 8 → 1 ≤ t → t ≤ 8 → q < 8 → ¬ (u = p ∧ t = s ∧ i ≤ q ∧ q < n) → gA r 5 (i5 u t q) = gA ob 5 (i5 u t q)) := by
        intro v hv
        obtain ⟨r, r1, r2, r3, r4, r5⟩ := ih g (sA ob 5 (i5 p s i) v) (i + 1) (by omega) (by omega) (by omega) h0
        refine ⟨r, r1, r2, fun j hj => (r3 j hj).trans (gA_n _ hj _ _), fun q a b => ?_, fun u t q hu t1 t2 hq ne => ?_⟩
        · by_cases z : q = i
          · rw [z, r5 p s i (by omega) h1 h2 (by omega) (fun w => by omega), gA_u, up_s]; exact hv
          · exact r4 q (by omega) b
        · rw [r5 u t q hu t1 t2 hq (fun w => ne ⟨w.1, w.2.1, by omega, w.2.2.2⟩), gA_u, up_o (i5_ne hu ⟨t1, t2⟩ hq (by omega) ⟨h1, h2⟩ (by omega) (fun w => ne ⟨w.1, w.2.1, by omega, by omega⟩))]
      rw [if_pos ((n32_lt (by omega) (by omega)).mpr (by omega)), e5' (by omega) h1 h2 (by omega), n32_s (by omega)]
      by_cases c : i = p
      · rw [if_pos (by rw [c]), q1]; exact nx 0 (by rw [if_pos c])
      · rw [if_neg (i1_ne (by omega) (by omega) c), q1]; exact nx 1 (by rw [if_neg c])
theorem b64 (NF : Nat) {n p s : Nat} (hn : n ≤ 8) (hp : p < n) (h1 : 1 ≤ s) (h2 : s ≤ 8) (a : Int32) : ∀ (m fuel : Nat) (ob : Rec) (i : Nat), m < fuel → i ≤ n → n - i ≤ m → gI ob 0 = n32 n →
    ∃ r, X_broadcast_l64 NF fuel ob (n32 p) a (n32 (p * 8 + s - 1)) (n32 i) = ((X_deliverAt (sA r 4 (i5 p s p) a) (n32 p) (n32 p) a).bind fun q5 => X_broadcast_l125 NF NF q5 (n32 p) a (n32 (p * 8 + s - 1)) (0 : Int32)) ∧ (∀ j, gI r j = gI ob j) ∧ (∀ j, ¬ j = 4 → gA r j = gA ob j) ∧ (∀ q, i ≤ q → q < n → gA r 4 (i5 p s q) = gA ob 2 (i2 p q)) ∧ (∀ u t q, u < 8 → 1 ≤ t → t ≤ 8 → q < 8 → ¬ (u = p ∧ t = s ∧ i ≤ q ∧ q < n) → gA r 4 (i5 u t q) = gA ob 4 (i5 u t q)) := by
  have q1 : ∀ i, i < n → ∀ A : Option (Int32 × Rec), chk 512 (i5 p s i) A = A := fun i hi A => k5 (by omega) h1 h2 (by omega)
  intro m
  induction m with
  | zero =>
    intro fuel ob i hf hi hm h0
    obtain ⟨g, rfl⟩ : ∃ g, fuel = g + 1 := ⟨fuel - 1, by omega⟩
    refine ⟨ob, ?_, fun _ => rfl, fun _ _ => rfl, fun q a b => by omega, fun _ _ _ _ _ _ _ _ => rfl⟩
    show X_broadcast_w64 NF _ ob _ _ _ _ = _
    unfold X_broadcast_w64
    rw [h0, if_neg (fun z => by rw [n32_lt (by omega) (by omega)] at z; omega), e5' (by omega) h1 h2 (by omega), q1 p hp]
  | succ m ih =>
    intro fuel ob i hf hi hm h0
    obtain ⟨g, rfl⟩ : ∃ g, fuel = g + 1 := ⟨fuel - 1, by omega⟩
    show ∃ r, X_broadcast_w64 NF (X_broadcast_l64 NF g) ob _ _ _ _ = _ ∧ _
    unfold X_broadcast_w64
    rw [h0]
    by_cases e : i = n
    · rw [if_neg (fun z => by rw [n32_lt (by omega) (by omega)] at z; omega), e5' (by omega) h1 h2 (by omega), q1 p hp]
      exact ⟨ob, rfl, fun _ => rfl, fun _ _ => rfl, fun q a b => by omega, fun _ _ _ _ _ _ _ _ => rfl⟩
    · rw [if_pos ((n32_lt (by omega) (by omega)).mpr (by omega)), e5' (by omega) h1 h2 (by omega), n32_s (by omega), e2 (by omega) (by omega), k2 (by omega) (by omega), q1 i (by omega)]
      obtain ⟨r, r1, r2, r3, r4, r5⟩ := ih g (sA ob 4 (i5 p s i) (gA ob 2 (i2 p i))) (i + 1) (by omega) (by omega) (by omega) h0
      refine ⟨r, r1, r2, fun j hj => (r3 j hj).trans (gA_n _ hj _ _), fun q a b => ?_, fun u t q hu t1 t2 hq ne => ?_⟩
      · by_cases z : q = i
        · rw [z, r5 p s i (by omega) h1 h2 (by omega) (fun w => by omega), gA_u, up_s]
        · rw [r4 q (by omega) b, gA_n _ (by decide)]
      · rw [r5 u t q hu t1 t2 hq (fun w => ne ⟨w.1, w.2.1, by omega, w.2.2.2⟩), gA_u, up_o (i5_ne hu ⟨t1, t2⟩ hq (by omega) ⟨h1, h2⟩ (by omega) (fun w => ne ⟨w.1, w.2.1, by omega, by omega⟩))]
/-- what a broadcast leaves -/
abbrev BR (ob r : Rec) (n p : Nat) : Prop := (gA r 0 = up (gA ob 0) (n32 p) (n32 (sN (gA ob 0) p + 1))) ∧ (gA r 1 = gA ob 1) ∧ (gA r 3 = up (gA ob 3) (i3 p p (sN (gA ob 0) p + 1)) 2) ∧ (gA r 8 = up (gA ob 8) (n32 p) (n32 (sN (gA ob 8) p + 1))) ∧ (∀ u t q, u < 8 → 1 ≤ t → t ≤ 8 → q < n → gA r 5 (i5 u t q) = if u = p ∧ t = sN (gA ob 0) p + 1 then (if q = p then 0 else 1) else gA ob 5 (i5 u t q))
theorem BR.g0 {ob r : Rec} {n p : Nat} (h : BR ob r n p) : gA r 0 = up (gA ob 0) (n32 p) (n32 (sN (gA ob 0) p + 1)) := h.1
theorem BR.g1 {ob r : Rec} {n p : Nat} (h : BR ob r n p) : gA r 1 = gA ob 1 := h.2.1
theorem BR.g3 {ob r : Rec} {n p : Nat} (h : BR ob r n p) : gA r 3 = up (gA ob 3) (i3 p p (sN (gA ob 0) p + 1)) 2 := h.2.2.1
theorem BR.g8 {ob r : Rec} {n p : Nat} (h : BR ob r n p) : gA r 8 = up (gA ob 8) (n32 p) (n32 (sN (gA ob 8) p + 1)) := h.2.2.2.1
theorem BR.g5 {ob r : Rec} {n p : Nat} (h : BR ob r n p) : ∀ u t q, u < 8 → 1 ≤ t → t ≤ 8 → q < n → gA r 5 (i5 u t q) = if u = p ∧ t = sN (gA ob 0) p + 1 then (if q = p then 0 else 1) else gA ob 5 (i5 u t q) := h.2.2.2.2
theorem brd_e (NF : Nat) (hNF : 200 < NF) {ob : Rec} {n cap p : Nat} (h : DI ob n cap) (hn : n ≤ 8) (hc : cap ≤ 8) (hp : p < 100) :
    ∃ a r, X_broadcast NF ob (n32 p) = some (a, r) ∧ DI r n cap ∧ ((a < 0 ∧ r = ob) ∨ (p < n ∧ sN (gA ob 0) p < cap ∧ a = n32 (sN (gA ob 0) p + 1) ∧ BR ob r n p)) := by
  unfold X_broadcast
  rw [vp_e h.1 hn hp, Option.bind_some]
  by_cases c0 : p < n
  · rw [if_pos c0, if_neg (by decide), kp (by clear h; omega)]
    by_cases l1 : gA ob 1 (n32 p) = 0
    · have hS := h.2.2.sS p c0
      have hS2 := hS.2
      rw [if_pos l1, kp (by clear h; omega), h.2.1, hS.1]
      by_cases l2 : sN (gA ob 0) p < cap
      · unfold X_msgIndex
        rw [if_pos ((n32_lt (by clear h; omega) (by clear h; omega)).mpr l2), kp (by clear h; omega), kp (by clear h; omega), Option.bind_some, n32_s (by clear h; omega), em (by clear h; omega) (by clear h; omega) (by clear h; omega)]
        obtain ⟨g0, g1, da⟩ := h
        generalize hs : sN (gA ob 0) p + 1 = s
        have s1' : 1 ≤ s ∧ s ≤ 8 := by clear da; omega
        obtain ⟨r, r1, r2, r3, r4, r5⟩ := b64 NF hn c0 s1'.1 s1'.2 (n32 s) 20 NF (sA ob 0 (n32 p) (n32 s)) 0 (by clear da; omega) (by clear da; omega) (by clear da; omega) g0
        have r1' : X_broadcast_l64 NF NF (sA ob 0 (n32 p) (n32 s)) (n32 p) (n32 s) (n32 (p * 8 + s - 1)) 0 = _ := r1
        have dpp : dN (gA ob 2) p p = sN (gA ob 0) p := da.sO p c0
        have hd := (da.sD p p c0 c0).1
        have l64 := DA_len' da hn hc c0 c0 (show dN (gA ob 2) p p < 8 by clear da; omega)
        have hl := (da.sL p c0).1
        have q2 : gA (sA r 4 (i5 p s p) (n32 s)) 2 = gA ob 2 := by rw [gA_n _ (by decide), r3 2 (by decide), gA_n _ (by decide)]
        have q8 : gA (sA r 4 (i5 p s p) (n32 s)) 8 = gA ob 8 := by rw [gA_n _ (by decide), r3 8 (by decide), gA_n _ (by decide)]
        have dl := dlv_e (ob := sA r 4 (i5 p s p) (n32 s)) (x := p) (o := p) (s := s) (d := dN (gA ob 2) p p) (l := sN (gA ob 8) p) (by clear da; omega) (by clear da; omega) s1'.1 s1'.2 (by rw [q2]; exact hd) (by clear da; omega) (by rw [q8]; exact hl) l64
        rw [r1', dl, Option.bind_some]
        have gi0 : gI (dlr (sA r 4 (i5 p s p) (n32 s)) p p s (dN (gA ob 2) p p) (sN (gA ob 8) p)) 0 = n32 n := (r2 0).trans g0
        obtain ⟨w, w1, w2, w3, w4, w5⟩ := b125 NF hn c0 s1'.1 s1'.2 (n32 s) 20 NF _ 0 (by clear da; omega) (by clear da; omega) (by clear da; omega) gi0
        have w1' : X_broadcast_l125 NF NF (dlr (sA r 4 (i5 p s p) (n32 s)) p p s (dN (gA ob 2) p p) (sN (gA ob 8) p)) (n32 p) (n32 s) (n32 (p * 8 + s - 1)) 0 = _ := w1
        have d1 : dN (gA ob 2) p p + 1 = s := by clear da; omega
        have W0 : gA w 0 = up (gA ob 0) (n32 p) (n32 s) := by rw [w3 0 (by decide), dlr_n _ _ _ _ _ _ (by decide), gA_n _ (by decide), r3 0 (by decide), gA_u]
        have W1 : gA w 1 = gA ob 1 := by rw [w3 1 (by decide), dlr_n _ _ _ _ _ _ (by decide), gA_n _ (by decide), r3 1 (by decide), gA_n _ (by decide)]
        have W2 : gA w 2 = up (gA ob 2) (i2 p p) (n32 s) := by rw [w3 2 (by decide), dlr_2, q2, d1]
        have W3 : gA w 3 = up (gA ob 3) (i3 p p s) 2 := by rw [w3 3 (by decide), dlr_3, gA_n _ (by decide), r3 3 (by decide), gA_n _ (by decide)]
        have W4 : gA w 4 = up (gA r 4) (i5 p s p) (n32 s) := by rw [w3 4 (by decide), dlr_n _ _ _ _ _ _ (by decide), gA_u]
        have W6 : gA w 6 = up (gA ob 6) (i6 p p p) (n32 s) := by rw [w3 6 (by decide), dlr_6, gA_n _ (by decide), r3 6 (by decide), gA_n _ (by decide), d1]
        have W7 : gA w 7 = up (gA ob 7) (i7 p (sN (gA ob 8) p)) (n32 (p * 16 + s)) := by rw [w3 7 (by decide), dlr_7, gA_n _ (by decide), r3 7 (by decide), gA_n _ (by decide)]
        have W8 : gA w 8 = up (gA ob 8) (n32 p) (n32 (sN (gA ob 8) p + 1)) := by rw [w3 8 (by decide), dlr_8, q8]
        have o5 : ∀ u t q, gA (dlr (sA r 4 (i5 p s p) (n32 s)) p p s (dN (gA ob 2) p p) (sN (gA ob 8) p)) 5 (i5 u t q) = gA ob 5 (i5 u t q) := fun u t q => by rw [dlr_n _ _ _ _ _ _ (by decide), gA_n _ (by decide), r3 5 (by decide), gA_n _ (by decide)]
        have W5 : ∀ u t q, u < 8 → 1 ≤ t → t ≤ 8 → q < n → gA w 5 (i5 u t q) = if u = p ∧ t = s then (if q = p then 0 else 1) else gA ob 5 (i5 u t q) := fun u t q hu t1 t2 hq => by
          by_cases z : u = p ∧ t = s
          · rw [if_pos z, z.1, z.2]; exact w4 q (by clear da; omega) hq
          · rw [if_neg z, w5 u t q hu t1 t2 (by clear da; omega) (fun y => z ⟨y.1, y.2.1⟩), o5]
        have sb0 : sN (up (gA ob 0) (n32 p) (n32 s)) p = s := by
          show ((up (gA ob 0) (n32 p) (n32 s)) (n32 p)).toInt.toNat = s
          rw [up_s, nt s (by clear da; omega)]; rfl
        have sbo : ∀ u, u < n → ¬ u = p → (up (gA ob 0) (n32 p) (n32 s)) (n32 u) = gA ob 0 (n32 u) := fun u hu ne => up_o (i1_ne (by clear da; omega) (by clear da; omega) ne)
        have sbo' : ∀ u, u < n → ¬ u = p → sN (up (gA ob 0) (n32 p) (n32 s)) u = sN (gA ob 0) u := fun u hu ne => by unfold sN; rw [sbo u hu ne]
        refine ⟨_, w, w1', ⟨(w2 0).trans gi0, (w2 1).trans ((r2 1).trans g1), ?_⟩, Or.inr ⟨c0, l2, rfl, ⟨by rw [hs]; exact W0, W1, by rw [hs]; exact W3, W8, by rw [hs]; exact W5⟩⟩⟩
        rw [W0, W1, W2, W3, W4, W6, W7, W8]
        refine DA_dl da hn hc c0 c0 d1.symm (by rw [sb0]; exact Nat.le_refl _) (fun u hu => ?_) (fun y hy ne => ?_) (fun _ => sb0) (fun u t q hu t1 t2 hq => ?_) (fun q hq ne => ?_) (fun u t q hu t1 t2 hq => ?_)
        · by_cases z : u = p
          · rw [z, sb0, up_s]; exact ⟨rfl, by clear da; omega, by clear da; omega⟩
          · rw [sbo u hu z, sbo' u hu z]; exact ⟨(da.sS u hu).1, (da.sS u hu).2, Nat.le_refl _⟩
        · exact sbo' y hy (fun z => ne ⟨z, rfl⟩)
        · have ne : ¬ (u = p ∧ t = s) := fun z => by rw [z.1] at t2; clear da; omega
          have tu := (da.sS u hu).2
          unfold stN
          rw [up_o (i5_ne (by clear da; omega) ⟨t1, by clear da; omega⟩ (by clear da; omega) (by clear da; omega) s1' (by clear da; omega) (fun z => ne ⟨z.1, z.2.1⟩)), r5 u t q (by clear da; omega) t1 (by clear da; omega) (by clear da; omega) (fun z => ne ⟨z.1, z.2.1⟩), gA_n _ (by decide)]
        · unfold stN
          rw [up_o (i5_ne (by clear da; omega) s1' (by clear da; omega) (by clear da; omega) s1' (by clear da; omega) (fun z => ne z.2.2)), r4 q (by clear da; omega) hq, gA_n _ (by decide), (da.sD p q c0 hq).1]
          have b1 := (da.sD p q c0 hq).2
          have b2 := (da.sS q hq).2
          rw [nt _ (by clear da; omega)]
          exact Int.le_refl _
        · have hP := da.sP u t q hu t1 t2 hq
          unfold pN
          rw [W5 u t q (by clear da; omega) t1 t2 hq]
          by_cases z : u = p ∧ t = s
          · rw [if_pos z]
            by_cases y : q = p
            · rw [if_pos y]; exact ⟨rfl, by decide, fun _ => rfl⟩
            · rw [if_neg y]; exact ⟨rfl, by decide, fun x => by rw [z.1, z.2, sb0] at x; clear da hP; omega⟩
          · rw [if_neg z]
            refine ⟨hP.1, hP.2.1, fun x => hP.2.2 ?_⟩
            by_cases y : u = p
            · rw [y, sb0] at x; rw [y]; clear da hP; omega
            · rw [sbo' u hu y] at x; exact x
      · rw [if_neg (fun z => l2 ((n32_lt (by clear h; omega) (by clear h; omega)).mp z))]; exact ⟨_, ob, rfl, h, Or.inl ⟨by decide, rfl⟩⟩
    · rw [if_neg l1]; exact ⟨_, ob, rfl, h, Or.inl ⟨by decide, rfl⟩⟩
  · rw [if_neg c0, if_pos rfl]; exact ⟨_, ob, rfl, h, Or.inl ⟨by decide, rfl⟩⟩
/-- a new object -/
theorem ini_e {n cap : Nat} (h1 : 2 ≤ n ∧ n ≤ 8) (h2 : 1 ≤ cap ∧ cap ≤ 8) : ∃ r, X_init (n32 n) (n32 cap) = some r ∧ DI r n cap ∧ (∀ j x, gA r j x = 0) := by
  have n1 : ¬ n32 n < 2 := by rw [lt_i, nt n (by omega)]; show ¬ (n : Int) < 2; omega
  have n2 : ¬ (8 : Int32) < n32 n := by rw [lt_i, nt n (by omega)]; show ¬ (8 : Int) < n; omega
  have c1 : ¬ n32 cap < 1 := by rw [lt_i, nt cap (by omega)]; show ¬ (cap : Int) < 1; omega
  have c2 : ¬ (8 : Int32) < n32 cap := by rw [lt_i, nt cap (by omega)]; show ¬ (8 : Int) < cap; omega
  unfold X_init; rw [if_neg n1]
  unfold X_init_b90; rw [if_neg n2]
  unfold X_init_b99; rw [if_neg c1]
  unfold X_init_b116; rw [if_neg c2]
  generalize hr : sI (sI zrec 0 (n32 n)) 1 (n32 cap) = r
  have rA : ∀ j, gA r j = fun _ => 0 := fun j => by rw [← hr]; rfl
  refine ⟨r, rfl, ⟨by rw [← hr]; rfl, by rw [← hr]; rfl, ?_⟩, fun j x => by rw [rA]⟩
  simp only [rA]
  have z1 : ∀ o, sN (fun _ => 0) o = 0 := fun _ => rfl
  have z2 : ∀ x o, dN (fun _ => 0) x o = 0 := fun _ _ => rfl
  have z3 : ∀ x o s, tS (fun _ => 0) x o s = 0 := fun _ _ _ => rfl
  have zs : ∀ n, sm (fun _ => 0) n = 0 := fun n => by
    induction n with
    | zero => rfl
    | succ n ih => show sm (fun _ => 0) n + 0 = 0; rw [ih]
  refine ⟨fun _ _ => ⟨rfl, Nat.zero_le _⟩, fun _ _ => Or.inl rfl, fun _ _ _ _ => ⟨rfl, Nat.zero_le _⟩, fun _ _ => rfl, fun x o s _ _ s1' _ => ⟨Or.inl rfl, ⟨fun z => ?_, fun z => ?_⟩, fun _ => rfl⟩, fun _ _ _ _ _ _ _ => ⟨rfl, Nat.zero_le _, fun _ => rfl⟩, fun _ _ _ _ _ _ => ⟨rfl, Nat.zero_le _, rfl⟩, fun x _ => ⟨rfl, (zs n).symm, fun _ _ => rfl⟩, fun x i _ hi => absurd hi (Nat.not_lt_zero i), fun q o s _ _ _ _ z => absurd z (by rw [z3]; decide)⟩
  · rw [z3] at z; rcases z with z | z <;> exact absurd z (by decide)
  · rw [z2] at z; omega
/- the getters -/
theorem g_cop {ob : Rec} {n cap o s q : Nat} (h : DI ob n cap) (hn : n ≤ 8) (hc : cap ≤ 8) (ho : o < n) (h1 : 1 ≤ s) (h2 : s ≤ 8) (hq : q < n) : X_copies ob (n32 o) (n32 s) (n32 q) = some (if s ≤ sN (gA ob 0) o then n32 (pN (gA ob 5) o s q) else -1) := by
  unfold X_copies
  by_cases c : s ≤ sN (gA ob 0) o
  · unfold X_copyIndex
    rw [ex_y h hn hc ho h1 c, Option.bind_some, if_neg (by decide), vp_e h.1 hn (by clear h; omega), Option.bind_some, if_pos hq, if_neg (by decide), Option.bind_some, e5 (by clear h; omega) h1 h2 (by clear h; omega), k5 (by clear h; omega) h1 h2 (by clear h; omega), if_pos c, (h.2.2.sP o s q ho h1 h2 hq).1]
  · rw [ex_n h hn hc (by clear h; omega) (by clear h; omega) (fun z => c z.2.2), Option.bind_some, if_pos rfl, if_neg c]
theorem g_sta {ob : Rec} {n cap x o s : Nat} (h : DI ob n cap) (hn : n ≤ 8) (hc : cap ≤ 8) (hx : x < n) (ho : o < n) (h1 : 1 ≤ s) (h2 : s ≤ 8) : X_state ob (n32 x) (n32 o) (n32 s) = some (if s ≤ sN (gA ob 0) o then tS (gA ob 3) x o s else -1) := by
  unfold X_state
  rw [vp_e h.1 hn (by clear h; omega), Option.bind_some, if_pos hx, if_neg (by decide)]
  by_cases c : s ≤ sN (gA ob 0) o
  · unfold X_stateIndex
    rw [ex_y h hn hc ho h1 c, Option.bind_some, if_neg (by decide), Option.bind_some, e3 (by clear h; omega) (by clear h; omega) h1 (by clear h; omega), k3 (by clear h; omega) (by clear h; omega) h1 h2, if_pos c]; rfl
  · rw [ex_n h hn hc (by clear h; omega) (by clear h; omega) (fun z => c z.2.2), Option.bind_some, if_pos rfl, if_neg c]
theorem g_snt {ob : Rec} {n cap o : Nat} (h : DI ob n cap) (hn : n ≤ 8) (ho : o < n) : X_sent ob (n32 o) = some (n32 (sN (gA ob 0) o)) := by
  unfold X_sent
  rw [vp_e h.1 hn (by clear h; omega), Option.bind_some, if_pos ho, if_neg (by decide), kp (by clear h; omega), (h.2.2.sS o ho).1]
theorem g_crs {ob : Rec} {n cap p : Nat} (h : DI ob n cap) (hn : n ≤ 8) (hp : p < n) : X_isCrashed ob (n32 p) = some (gA ob 1 (n32 p)) := by
  unfold X_isCrashed
  rw [vp_e h.1 hn (by clear h; omega), Option.bind_some, if_pos hp, if_neg (by decide), kp (by clear h; omega)]
  rcases h.2.2.sC p hp with e | e <;> rw [e] <;> rfl
theorem g_del {ob : Rec} {n cap x o : Nat} (h : DI ob n cap) (hn : n ≤ 8) (hx : x < n) (ho : o < n) : X_delivered ob (n32 x) (n32 o) = some (n32 (dN (gA ob 2) x o)) := by
  unfold X_delivered
  rw [vp_e h.1 hn (by clear h; omega), Option.bind_some, if_pos hx, if_neg (by decide), vp_e h.1 hn (by clear h; omega), Option.bind_some, if_pos ho, if_neg (by decide), e2 (by clear h; omega) (by clear h; omega), k2 (by clear h; omega) (by clear h; omega), (h.2.2.sD x o hx ho).1]
theorem g_kno {ob : Rec} {n cap p q o : Nat} (h : DI ob n cap) (hn : n ≤ 8) (hp : p < n) (hq : q < n) (ho : o < n) : X_known ob (n32 p) (n32 q) (n32 o) = some (n32 (kwN (gA ob 6) p q o)) := by
  unfold X_known X_knownIndex
  rw [vp_e h.1 hn (by clear h; omega), Option.bind_some, if_pos hp, if_neg (by decide), vp_e h.1 hn (by clear h; omega), Option.bind_some, if_pos hq, if_neg (by decide), vp_e h.1 hn (by clear h; omega), Option.bind_some, if_pos ho, if_neg (by decide), Option.bind_some, e6 (by clear h; omega) (by clear h; omega) (by clear h; omega), k6 (by clear h; omega) (by clear h; omega) (by clear h; omega), (h.2.2.sK p q o hp hq ho).1]
theorem g_dat {ob : Rec} {n cap x i : Nat} (h : DI ob n cap) (hn : n ≤ 8) (hc : cap ≤ 8) (hx : x < n) (hi : i < 200) : X_deliveredAt ob (n32 x) (n32 i) = some (if i < sN (gA ob 8) x then n32 (cd (gA ob 7) x i) else -1) := by
  have l64 := DA_len h.2.2 hn hc hx
  unfold X_deliveredAt
  rw [vp_e h.1 hn (by clear h; omega), Option.bind_some, if_pos hx, if_neg (by decide), if_neg (nneg (n32_b (by clear h; omega)).1), kp (by clear h; omega), (h.2.2.sL x hx).1]
  by_cases c : i < sN (gA ob 8) x
  · rw [if_pos ((n32_lt (by clear h; omega) (by clear h; omega)).mpr c), if_pos (by rw [lt_i, nt i (by clear h; omega)]; show (i : Int) < 64; clear h; omega), e7 (by clear h; omega) (by clear h; omega), k7 (by clear h; omega) (by clear h; omega), if_pos c, (h.2.2.sE x i hx c).1]
  · rw [if_neg (fun z => c ((n32_lt (by clear h; omega) (by clear h; omega)).mp z)), if_neg c]
-- USE: bits pga0 nn cda cdb cdc cdd cde
theorem lpN {α : Type} (L : Nat → Nat → Option α) (n : Nat) (R : Option α) (hstop : ∀ f, L (f + 1) n = R) (hstep : ∀ f i, i < n → L (f + 1) i = L f (i + 1)) : ∀ d fuel i, i + d = n → d < fuel → L fuel i = R := by
  intro d
  induction d with
  | zero =>
    intro fuel i hi hf
    obtain ⟨g, rfl⟩ : ∃ g, fuel = g + 1 := ⟨fuel - 1, by omega⟩
    rw [show i = n by omega]; exact hstop g
  | succ d ih =>
    intro fuel i hi hf
    obtain ⟨g, rfl⟩ : ∃ g, fuel = g + 1 := ⟨fuel - 1, by omega⟩
    rw [hstep g i (by omega)]
    exact ih g (i + 1) (by omega) (by omega)
theorem n32_div {k m : Nat} (hk : k < 1000) (hm : 0 < m ∧ m < 1000) : n32 k / n32 m = n32 (k / m) := by
  have : k / m ≤ k := Nat.div_le_self k m
  refine eq_i32.mpr ?_
  rw [dv (by rw [nt k (by omega)]; omega) (by rw [nt m (by omega)]; omega), nt k (by omega), nt m (by omega), nt _ (by omega)]; exact (Int.natCast_ediv k m).symm
theorem n32_mod {k m : Nat} (hk : k < 10000) (hm : 0 < m ∧ m < 1000) : n32 k % n32 m = n32 (k % m) := by
  have : k % m < m := Nat.mod_lt k hm.1
  refine eq_i32.mpr ?_
  rw [md (by rw [nt k (by omega)]; omega) (by rw [nt m (by omega)]; omega), nt k (by omega), nt m (by omega), nt _ (by omega)]; exact (Int.natCast_emod k m).symm
theorem nlt {i n : Nat} (hi : i < 1000) (hn : n < 1000) (h : ¬ i < n) : ¬ n32 i < n32 n := fun z => h ((n32_lt hi hn).mp z)
theorem ylt {i n : Nat} (hi : i < 1000) (hn : n < 1000) (h : i < n) : n32 i < n32 n := (n32_lt hi hn).mpr h
theorem cdb {ob : Rec} {n cap p i : Nat} (h : DI ob n cap) (hn : n ≤ 8) (hp : p < n) (hi : i < sN (gA ob 8) p) : cd (gA ob 7) p i < 200 := by
  have := (h.2.2.sE p i hp hi).2.1
  clear h; omega
theorem cbf (NF : Nat) (hNF : 200 < NF) {ob : Rec} {n cap p i o : Nat} (h : DI ob n cap) (hn : n ≤ 8) (hc : cap ≤ 8) (hp : p < n) (hi : i ≤ sN (gA ob 8) p) (ho : o < n) : L_countBefore NF ob (n32 p) (n32 i) (n32 o) = some (n32 (cb (gA ob 7) p i o)) := by
  have l64 := DA_len h.2.2 hn hc hp
  have := lpN (fun fuel j => L_countBefore_l6 NF ob fuel (n32 p) (n32 i) (n32 o) (n32 (cb (gA ob 7) p j o)) (n32 j)) i (some (n32 (cb (gA ob 7) p i o))) (fun f => by
    show L_countBefore_w6 NF ob _ _ _ _ _ _ = _
    unfold L_countBefore_w6
    rw [if_neg (nlt (by clear h; omega) (by clear h; omega) (by clear h; omega))]) (fun f j hj => by
    show L_countBefore_w6 NF ob (L_countBefore_l6 NF ob f) _ _ _ _ _ = L_countBefore_l6 NF ob f (n32 p) (n32 i) (n32 o) (n32 (cb (gA ob 7) p (j + 1) o)) (n32 (j + 1))
    have cb' := cdb h hn hp (show j < sN (gA ob 8) p by clear h; omega)
    have bb := cN_b (fun k => decide (cd (gA ob 7) p k / 16 = o)) j
    have bb' : cb (gA ob 7) p j o ≤ j := bb
    have dd : n32 (cd (gA ob 7) p j) / 16 = n32 (cd (gA ob 7) p j / 16) := n32_div (m := 16) (by clear h; omega) (by omega)
    have e1 : cb (gA ob 7) p (j + 1) o = cb (gA ob 7) p j o + (if decide (cd (gA ob 7) p j / 16 = o) = true then 1 else 0) := rfl
    unfold L_countBefore_w6
    rw [if_pos (ylt (by clear h; omega) (by clear h; omega) hj), g_dat h hn hc hp (by clear h; omega), Option.bind_some, if_pos (show j < sN (gA ob 8) p by clear h; omega), dd, n32_s (i := j) (by clear h; omega)]
    by_cases c : cd (gA ob 7) p j / 16 = o
    · rw [if_pos (by rw [c]), n32_s (by clear h; omega), e1, decide_eq_true c, if_pos rfl]
    · rw [if_neg (n32_ne (by clear h; omega) (by clear h; omega) c), e1, decide_eq_false c, if_neg (by decide)]; rfl) i NF 0 (by omega) (by clear h; omega)
  exact this
theorem g_stp {ob : Rec} {n cap o s q : Nat} (h : DI ob n cap) (hn : n ≤ 8) (hc : cap ≤ 8) (ho : o < n) (h1 : 1 ≤ s) (h2 : s ≤ sN (gA ob 0) o) (hq : q < n) : X_stamp ob (n32 o) (n32 s) (n32 q) = some (gA ob 4 (i5 o s q)) := by
  have sS := (h.2.2.sS o ho).2
  unfold X_stamp X_msgIndex
  rw [ex_y h hn hc ho h1 h2, Option.bind_some, if_neg (by decide), vp_e h.1 hn (by clear h; omega), Option.bind_some, if_pos hq, if_neg (by decide), Option.bind_some, e5 (by clear h; omega) h1 (by clear h; omega) (by clear h; omega), k5 (by clear h; omega) h1 (by clear h; omega) (by clear h; omega)]
/-- one entry of a delivery list -/
theorem l120 (NF : Nat) (hNF : 200 < NF) {ob : Rec} {n cap p i : Nat} (h : DI ob n cap) (hn : n ≤ 8) (hc : cap ≤ 8) (hp : p < n) (hi : i < sN (gA ob 8) p) (k2 : Int32 → Int32 → Option Int32) (k37 : Int32 → Int32 → Int32 → Int32 → Option Int32) (x3 : Int32) :
    L_holds_l120 NF ob k2 k37 NF (n32 n) (n32 p) x3 (n32 i) (n32 (cd (gA ob 7) p i / 16)) (n32 (cd (gA ob 7) p i % 16)) 0 = k37 (n32 n) (n32 p) x3 (n32 (i + 1)) := by
  have l64 := DA_len h.2.2 hn hc hp
  obtain ⟨E1, E2, E3, E4, E5⟩ := h.2.2.sE p i hp hi
  have hD := (h.2.2.sD p _ hp E2).2
  have s1' : 1 ≤ cd (gA ob 7) p i % 16 := by clear h E5; omega
  have := lpN (fun fuel j => L_holds_l120 NF ob k2 k37 fuel (n32 n) (n32 p) x3 (n32 i) (n32 (cd (gA ob 7) p i / 16)) (n32 (cd (gA ob 7) p i % 16)) (n32 j)) n (k37 (n32 n) (n32 p) x3 (n32 (i + 1))) (fun f => by
    show L_holds_w120 NF ob k2 k37 _ _ _ _ _ _ _ _ = _
    unfold L_holds_w120
    rw [if_neg (nlt (by clear h; omega) (by clear h; omega) (by clear h; omega)), n32_s (by clear h; omega)]) (fun f j hj => by
    show L_holds_w120 NF ob k2 k37 (L_holds_l120 NF ob k2 k37 f) _ _ _ _ _ _ _ = L_holds_l120 NF ob k2 k37 f (n32 n) (n32 p) x3 (n32 i) (n32 (cd (gA ob 7) p i / 16)) (n32 (cd (gA ob 7) p i % 16)) (n32 (j + 1))
    unfold L_holds_w120
    rw [if_pos (ylt (by clear h; omega) (by clear h; omega) hj), n32_s (by clear h; omega)]
    by_cases c : j = cd (gA ob 7) p i / 16
    · rw [if_pos (by rw [c])]
    · have st := E5 j hj c
      have bb : cb (gA ob 7) p i j ≤ i := cN_b _ i
      rw [if_neg (n32_ne (by clear h; omega) (by clear h; omega) c), cbf NF hNF h hn hc hp (by clear h; omega) hj, Option.bind_some, g_stp h hn hc E2 s1' (Nat.le_trans E4 hD) hj, Option.bind_some, if_neg (by rw [lt_i, nt _ (by clear h; omega)]; unfold stN at st; clear h; omega)]) n NF 0 (by omega) (by clear h; omega)
  exact this
theorem l37 (NF : Nat) (hNF : 200 < NF) {ob : Rec} {n cap p : Nat} (h : DI ob n cap) (hn : n ≤ 8) (hc : cap ≤ 8) (hp : p < n) (k2 : Int32 → Int32 → Option Int32) :
    L_holds_l37 NF ob k2 NF (n32 n) (n32 p) (n32 (sN (gA ob 8) p)) 0 = k2 (n32 n) (n32 (p + 1)) := by
  have l64 := DA_len h.2.2 hn hc hp
  have := lpN (fun fuel j => L_holds_l37 NF ob k2 fuel (n32 n) (n32 p) (n32 (sN (gA ob 8) p)) (n32 j)) (sN (gA ob 8) p) (k2 (n32 n) (n32 (p + 1))) (fun f => by
    show L_holds_w37 NF ob k2 _ _ _ _ _ = _
    unfold L_holds_w37
    rw [if_neg (nlt (by clear h; omega) (by clear h; omega) (by clear h; omega)), n32_s (by clear h; omega)]) (fun f j hj => by
    show L_holds_w37 NF ob k2 (L_holds_l37 NF ob k2 f) _ _ _ _ = L_holds_l37 NF ob k2 f (n32 n) (n32 p) (n32 (sN (gA ob 8) p)) (n32 (j + 1))
    have cb' := cdb h hn hp hj
    obtain ⟨E1, E2, E3, E4, E5⟩ := h.2.2.sE p j hp hj
    have hD := (h.2.2.sD p _ hp E2).2
    have hS := (h.2.2.sS _ E2).2
    have bb : cb (gA ob 7) p j (cd (gA ob 7) p j / 16) ≤ j := cN_b _ j
    have d1 : n32 (cd (gA ob 7) p j) / 16 = n32 (cd (gA ob 7) p j / 16) := n32_div (m := 16) (by clear h; omega) (by omega)
    have d2 : n32 (cd (gA ob 7) p j) % 16 = n32 (cd (gA ob 7) p j % 16) := n32_mod (m := 16) (by clear h; omega) (by omega)
    unfold L_holds_w37
    rw [if_pos (ylt (by clear h; omega) (by clear h; omega) hj), g_dat h hn hc hp (by clear h; omega), Option.bind_some, if_pos hj, if_neg (nneg (n32_b (by clear h; omega)).1), d1, d2, if_pos (ylt (by clear h; omega) (by clear h; omega) E2), if_neg (by rw [lt_i, nt _ (by clear h; omega)]; show ¬ ((cd (gA ob 7) p j % 16 : Nat) : Int) < 1; clear h E5; omega), g_del h hn hp E2, Option.bind_some, if_neg (nlt (by clear h; omega) (by clear h; omega) (by clear h E5; omega)), cbf NF hNF h hn hc hp (by clear h; omega) E2, Option.bind_some, if_pos (by
      have e1 : (1 : Int32) + n32 (cb (gA ob 7) p j (cd (gA ob 7) p j / 16)) = n32 (1 + cb (gA ob 7) p j (cd (gA ob 7) p j / 16)) := n32_add (i := 1) (by omega) (by clear h; omega)
      rw [e1, ← E3])]
    exact l120 NF hNF h hn hc hp hj k2 _ _) (sN (gA ob 8) p) NF 0 (by omega) (by clear h; omega)
  exact this
theorem l12 (NF : Nat) (hNF : 200 < NF) {ob : Rec} {n cap p : Nat} (h : DI ob n cap) (hn : n ≤ 8) (hc : cap ≤ 8) (hp : p < n) (k2 : Int32 → Int32 → Option Int32) :
    L_holds_l12 NF ob k2 NF (n32 n) (n32 p) 0 0 = k2 (n32 n) (n32 (p + 1)) := by
  have := lpN (fun fuel j => L_holds_l12 NF ob k2 fuel (n32 n) (n32 p) (n32 (sm (dN (gA ob 2) p) j)) (n32 j)) n (k2 (n32 n) (n32 (p + 1))) (fun f => by
    show L_holds_w12 NF ob k2 _ _ _ _ _ = _
    unfold L_holds_w12
    rw [if_neg (nlt (by clear h; omega) (by clear h; omega) (by clear h; omega)), ← (h.2.2.sL p hp).2.1]
    exact l37 NF hNF h hn hc hp k2) (fun f j hj => by
    show L_holds_w12 NF ob k2 (L_holds_l12 NF ob k2 f) _ _ _ _ = L_holds_l12 NF ob k2 f (n32 n) (n32 p) (n32 (sm (dN (gA ob 2) p) (j + 1))) (n32 (j + 1))
    have b1 := sm_b (f := dN (gA ob 2) p) (c := 8) j (fun i hi => by have h1 := (h.2.2.sD p i hp (by clear h; omega)).2; have h2 := (h.2.2.sS i (by clear h; omega)).2; clear h; omega)
    have b2 := (h.2.2.sD p j hp hj).2
    have b3 := (h.2.2.sS j hj).2
    unfold L_holds_w12
    rw [if_pos (ylt (by clear h; omega) (by clear h; omega) hj), g_del h hn hp hj, Option.bind_some, n32_add (by clear h; omega) (by clear h; omega), n32_s (by clear h; omega)]
    rfl) n NF 0 (by omega) (by clear h; omega)
  exact this
theorem has_e {ob : Rec} {n cap q o s : Nat} (h : DI ob n cap) (hn : n ≤ 8) (hc : cap ≤ 8) (hq : q < n) (ho : o < n) (h1 : 1 ≤ s) (h2 : s ≤ sN (gA ob 0) o) : L_has ob (n32 q) (n32 o) (n32 s) = some (if s ≤ dN (gA ob 2) q o then 1 else 0) := by
  have sS := (h.2.2.sS o ho).2
  have hT := (h.2.2.sT q o s hq ho h1 (by clear h; omega)).2.1
  unfold L_has
  rw [g_sta h hn hc hq ho h1 (by clear h; omega), Option.bind_some, if_pos h2]
  by_cases c : s ≤ dN (gA ob 2) q o
  · rw [if_pos c]
    rcases hT.mpr c with e | e
    · rw [if_pos e]
    · rw [if_neg (by rw [e]; decide), if_pos e]
  · rw [if_neg c, if_neg (fun e => c (hT.mp (Or.inl e))), if_neg (fun e => c (hT.mp (Or.inr e)))]
theorem l283 (NF : Nat) (hNF : 200 < NF) {ob : Rec} {n cap o s : Nat} (h : DI ob n cap) (hn : n ≤ 8) (hc : cap ≤ 8) (ho : o < n) (h1 : 1 ≤ s) (h2 : s ≤ sN (gA ob 0) o) (k180 : Int32 → Int32 → Option Int32) (k194 : Int32 → Int32 → Int32 → Int32 → Option Int32) (x3 x5 x6 x7 : Int32)
    (A5 : ¬ x5 = 0 → ∃ q, q < n ∧ tS (gA ob 3) q o s = 3) (A6 : ¬ x6 = 0 → ∃ q, q < n ∧ gA ob 1 (n32 q) = 0 ∧ s ≤ dN (gA ob 2) q o) (A7 : x7 = 0 → ∀ q, q < n → gA ob 1 (n32 q) = 0 → ¬ tS (gA ob 3) q o s = 2) :
    L_holds_l283 NF ob k180 k194 NF (n32 n) (n32 o) x3 (n32 s) x5 x6 x7 0 = k194 (n32 n) (n32 o) x3 (n32 (s + 1)) := by
  have sS := (h.2.2.sS o ho).2
  have := lpN (fun fuel j => L_holds_l283 NF ob k180 k194 fuel (n32 n) (n32 o) x3 (n32 s) x5 x6 x7 (n32 j)) n (k194 (n32 n) (n32 o) x3 (n32 (s + 1))) (fun f => by
    show L_holds_w283 NF ob k180 k194 _ _ _ _ _ _ _ _ _ = _
    unfold L_holds_w283
    rw [if_neg (nlt (by clear h; omega) (by clear h; omega) (by clear h; omega)), n32_s (by clear h; omega)]) (fun f j hj => by
    show L_holds_w283 NF ob k180 k194 (L_holds_l283 NF ob k180 k194 f) _ _ _ _ _ _ _ _ = L_holds_l283 NF ob k180 k194 f (n32 n) (n32 o) x3 (n32 s) x5 x6 x7 (n32 (j + 1))
    unfold L_holds_w283
    rw [if_pos (ylt (by clear h; omega) (by clear h; omega) hj), g_crs h hn hj, Option.bind_some, n32_s (i := j) (by clear h; omega)]
    by_cases lv : gA ob 1 (n32 j) = 0
    · rw [if_pos lv, has_e h hn hc hj ho h1 h2, Option.bind_some]
      have b324 : L_holds_b324 NF ob k180 k194 (L_holds_l283 NF ob k180 k194 f) (n32 n) (n32 o) x3 (n32 s) x5 x6 x7 (n32 j) (if s ≤ dN (gA ob 2) j o then 1 else 0) = L_holds_l283 NF ob k180 k194 f (n32 n) (n32 o) x3 (n32 s) x5 x6 x7 (n32 (j + 1)) := by
        unfold L_holds_b324
        rw [n32_s (i := j) (by clear h; omega)]
        by_cases e6 : x6 = 0
        · rw [if_pos e6]
        · rw [if_neg e6]
          by_cases c : s ≤ dN (gA ob 2) j o
          · rw [if_pos c, if_neg (by decide)]
          · rw [if_neg c, if_pos rfl]
            by_cases e7 : x7 = 0
            · exfalso
              obtain ⟨q, q1, q2, q3⟩ := A6 e6
              have hT := (h.2.2.sT q o s q1 ho h1 (by clear h; omega)).2.1
              rcases hT.mpr q3 with e | e
              · exact A7 e7 q q1 q2 e
              · exact c (h.2.2.sR q o s q1 ho h1 (by clear h; omega) e j hj lv)
            · rw [if_neg e7]
      by_cases e5 : x5 = 0
      · rw [if_pos e5]; exact b324
      · rw [if_neg e5]
        obtain ⟨q, q1, q2⟩ := A5 e5
        have c : s ≤ dN (gA ob 2) j o := h.2.2.sR q o s q1 ho h1 (by clear h; omega) q2 j hj lv
        rw [if_pos c] at b324 ⊢
        rw [if_neg (by decide)]
        exact b324
    · rw [if_neg lv]) n NF 0 (by omega) (by clear h; omega)
  exact this
theorem l212 (NF : Nat) (hNF : 200 < NF) {ob : Rec} {n cap o s : Nat} (h : DI ob n cap) (hn : n ≤ 8) (hc : cap ≤ 8) (ho : o < n) (h1 : 1 ≤ s) (h2 : s ≤ sN (gA ob 0) o) (k180 : Int32 → Int32 → Option Int32) (k194 : Int32 → Int32 → Int32 → Int32 → Option Int32) (x3 : Int32) : ∀ (m fuel i : Nat) (x5 x6 x7 : Int32), m < fuel → i ≤ n → n - i ≤ m →
    (¬ x5 = 0 → ∃ q, q < n ∧ tS (gA ob 3) q o s = 3) → (¬ x6 = 0 → ∃ q, q < n ∧ gA ob 1 (n32 q) = 0 ∧ s ≤ dN (gA ob 2) q o) → (x7 = 0 → ∀ q, q < i → gA ob 1 (n32 q) = 0 → ¬ tS (gA ob 3) q o s = 2) →
    L_holds_l212 NF ob k180 k194 fuel (n32 n) (n32 o) x3 (n32 s) x5 x6 x7 (n32 i) = k194 (n32 n) (n32 o) x3 (n32 (s + 1)) := by
  have sS := (h.2.2.sS o ho).2
  have stop : ∀ (kk) (x5 x6 x7 : Int32), (¬ x5 = 0 → ∃ q, q < n ∧ tS (gA ob 3) q o s = 3) → (¬ x6 = 0 → ∃ q, q < n ∧ gA ob 1 (n32 q) = 0 ∧ s ≤ dN (gA ob 2) q o) → (x7 = 0 → ∀ q, q < n → gA ob 1 (n32 q) = 0 → ¬ tS (gA ob 3) q o s = 2) → L_holds_w212 NF ob k180 k194 kk (n32 n) (n32 o) x3 (n32 s) x5 x6 x7 (n32 n) = k194 (n32 n) (n32 o) x3 (n32 (s + 1)) := by
    intro kk x5 x6 x7 A5 A6 A7
    unfold L_holds_w212
    rw [if_neg (nlt (by clear h; omega) (by clear h; omega) (by clear h; omega))]
    exact l283 NF hNF h hn hc ho h1 h2 k180 k194 x3 x5 x6 x7 A5 A6 A7
  intro m
  induction m with
  | zero =>
    intro fuel i x5 x6 x7 hf hi hm A5 A6 A7
    obtain ⟨g, rfl⟩ : ∃ g, fuel = g + 1 := ⟨fuel - 1, by clear h; omega⟩
    have e : i = n := by clear h; omega
    rw [e] at A7 ⊢
    exact stop _ x5 x6 x7 A5 A6 A7
  | succ m ih =>
    intro fuel i x5 x6 x7 hf hi hm A5 A6 A7
    obtain ⟨g, rfl⟩ : ∃ g, fuel = g + 1 := ⟨fuel - 1, by clear h; omega⟩
    by_cases e : i = n
    · rw [e] at A7 ⊢
      exact stop _ x5 x6 x7 A5 A6 A7
    · have hin : i < n := by clear h; omega
      show L_holds_w212 NF ob k180 k194 (L_holds_l212 NF ob k180 k194 g) (n32 n) (n32 o) x3 (n32 s) x5 x6 x7 (n32 i) = _
      have b258 : ∀ x5 x6 : Int32, (¬ x5 = 0 → ∃ q, q < n ∧ tS (gA ob 3) q o s = 3) → (¬ x6 = 0 → ∃ q, q < n ∧ gA ob 1 (n32 q) = 0 ∧ s ≤ dN (gA ob 2) q o) → L_holds_b258 NF ob k180 k194 (L_holds_l212 NF ob k180 k194 g) (n32 n) (n32 o) x3 (n32 s) x5 x6 x7 (n32 i) = k194 (n32 n) (n32 o) x3 (n32 (s + 1)) := by
        intro x5 x6 A5 A6
        unfold L_holds_b258
        rw [g_sta h hn hc hin ho h1 (by clear h; omega), Option.bind_some, if_pos h2, n32_s (i := i) (by clear h; omega)]
        by_cases c : tS (gA ob 3) i o s = 2
        · rw [if_pos c]
          exact ih g (i + 1) x5 x6 1 (by clear h; omega) (by clear h; omega) (by clear h; omega) A5 A6 (fun z => absurd z (by decide))
        · rw [if_neg c]
          refine ih g (i + 1) x5 x6 x7 (by clear h; omega) (by clear h; omega) (by clear h; omega) A5 A6 (fun z q hq lv => ?_)
          by_cases e' : q = i
          · rw [e']; exact c
          · exact A7 z q (by clear h; omega) lv
      have b234 : ∀ x5 : Int32, (¬ x5 = 0 → ∃ q, q < n ∧ tS (gA ob 3) q o s = 3) → L_holds_b234 NF ob k180 k194 (L_holds_l212 NF ob k180 k194 g) (n32 n) (n32 o) x3 (n32 s) x5 x6 x7 (n32 i) = k194 (n32 n) (n32 o) x3 (n32 (s + 1)) := by
        intro x5 A5
        unfold L_holds_b234
        rw [g_crs h hn hin, Option.bind_some]
        by_cases lv : gA ob 1 (n32 i) = 0
        · rw [if_pos lv, has_e h hn hc hin ho h1 h2, Option.bind_some]
          by_cases c : s ≤ dN (gA ob 2) i o
          · rw [if_pos c, if_neg (by decide)]
            exact b258 x5 1 A5 (fun _ => ⟨i, hin, lv, c⟩)
          · rw [if_neg c, if_pos rfl]
            exact b258 x5 x6 A5 A6
        · rw [if_neg lv, n32_s (i := i) (by clear h; omega)]
          refine ih g (i + 1) x5 x6 x7 (by clear h; omega) (by clear h; omega) (by clear h; omega) A5 A6 (fun z q hq lv' => ?_)
          by_cases e' : q = i
          · rw [e'] at lv'; exact absurd lv' lv
          · exact A7 z q (by clear h; omega) lv'
      unfold L_holds_w212
      rw [if_pos (ylt (by clear h; omega) (by clear h; omega) hin), g_sta h hn hc hin ho h1 (by clear h; omega), Option.bind_some, if_pos h2]
      by_cases c : tS (gA ob 3) i o s = 3
      · rw [if_pos c]; exact b234 1 (fun _ => ⟨i, hin, c⟩)
      · rw [if_neg c]; exact b234 x5 A5
theorem l361 (NF : Nat) (hNF : 200 < NF) {ob : Rec} {n cap : Nat} (h : DI ob n cap) (hn : n ≤ 8) (hc : cap ≤ 8) : L_holds_l361 NF ob NF (n32 n) 0 = some 1 := by
  have := lpN (fun fuel p => L_holds_l361 NF ob fuel (n32 n) (n32 p)) n (some 1) (fun f => by
    show L_holds_w361 NF ob _ _ _ = _
    unfold L_holds_w361
    rw [if_neg (nlt (by clear h; omega) (by clear h; omega) (by clear h; omega))]) (fun f p hp => by
    show L_holds_w361 NF ob (L_holds_l361 NF ob f) _ _ = L_holds_l361 NF ob f (n32 n) (n32 (p + 1))
    unfold L_holds_w361
    rw [if_pos (ylt (by clear h; omega) (by clear h; omega) hp)]
    have := lpN (fun fuel q => L_holds_l368 NF ob (L_holds_l361 NF ob f) fuel (n32 n) (n32 p) (n32 q)) n (L_holds_l361 NF ob f (n32 n) (n32 (p + 1))) (fun g => by
      show L_holds_w368 NF ob _ _ _ _ _ = _
      unfold L_holds_w368
      rw [if_neg (nlt (by clear h; omega) (by clear h; omega) (by clear h; omega)), n32_s (by clear h; omega)]) (fun g q hq => by
      show L_holds_w368 NF ob (L_holds_l361 NF ob f) (L_holds_l368 NF ob (L_holds_l361 NF ob f) g) _ _ _ = L_holds_l368 NF ob (L_holds_l361 NF ob f) g (n32 n) (n32 p) (n32 (q + 1))
      unfold L_holds_w368
      rw [if_pos (ylt (by clear h; omega) (by clear h; omega) hq)]
      have := lpN (fun fuel o => L_holds_l376 NF ob (L_holds_l361 NF ob f) (L_holds_l368 NF ob (L_holds_l361 NF ob f) g) fuel (n32 n) (n32 p) (n32 q) (n32 o)) n (L_holds_l368 NF ob (L_holds_l361 NF ob f) g (n32 n) (n32 p) (n32 (q + 1))) (fun g2 => by
        show L_holds_w376 NF ob _ _ _ _ _ _ _ = _
        unfold L_holds_w376
        rw [if_neg (nlt (by clear h; omega) (by clear h; omega) (by clear h; omega)), n32_s (by clear h; omega)]) (fun g2 o ho => by
        show L_holds_w376 NF ob _ _ (L_holds_l376 NF ob (L_holds_l361 NF ob f) (L_holds_l368 NF ob (L_holds_l361 NF ob f) g) g2) _ _ _ _ = L_holds_l376 NF ob (L_holds_l361 NF ob f) (L_holds_l368 NF ob (L_holds_l361 NF ob f) g) g2 (n32 n) (n32 p) (n32 q) (n32 (o + 1))
        unfold L_holds_w376
        have k1 := (h.2.2.sK p q o hp hq ho).2.1
        have d1 := (h.2.2.sD q o hq ho).2
        have s1' := (h.2.2.sS o ho).2
        rw [if_pos (ylt (by clear h; omega) (by clear h; omega) ho), g_kno h hn hp hq ho, Option.bind_some, g_del h hn hq ho, Option.bind_some, if_neg (nlt (by clear h; omega) (by clear h; omega) (by clear h; omega)), n32_s (by clear h; omega)]) n NF 0 (by omega) (by clear h; omega)
      exact this) n NF 0 (by omega) (by clear h; omega)
    exact this) n NF 0 (by omega) (by clear h; omega)
  exact this
theorem l180 (NF : Nat) (hNF : 200 < NF) {ob : Rec} {n cap : Nat} (h : DI ob n cap) (hn : n ≤ 8) (hc : cap ≤ 8) : L_holds_l180 NF ob NF (n32 n) 0 = some 1 := by
  have := lpN (fun fuel o => L_holds_l180 NF ob fuel (n32 n) (n32 o)) n (some 1) (fun f => by
    show L_holds_w180 NF ob _ _ _ = _
    unfold L_holds_w180
    rw [if_neg (nlt (by clear h; omega) (by clear h; omega) (by clear h; omega))]
    exact l361 NF hNF h hn hc) (fun f o ho => by
    show L_holds_w180 NF ob (L_holds_l180 NF ob f) _ _ = L_holds_l180 NF ob f (n32 n) (n32 (o + 1))
    unfold L_holds_w180
    rw [if_pos (ylt (by clear h; omega) (by clear h; omega) ho), g_snt h hn ho, Option.bind_some]
    have sS := (h.2.2.sS o ho).2
    have := lpN (fun fuel s => L_holds_l194 NF ob (L_holds_l180 NF ob f) fuel (n32 n) (n32 o) (n32 (sN (gA ob 0) o)) (n32 (s + 1))) (sN (gA ob 0) o) (L_holds_l180 NF ob f (n32 n) (n32 (o + 1))) (fun g => by
      show L_holds_w194 NF ob _ _ _ _ _ _ = _
      unfold L_holds_w194
      rw [if_pos (ylt (by clear h; omega) (by clear h; omega) (by clear h; omega)), n32_s (by clear h; omega)]) (fun g s hs => by
      show L_holds_w194 NF ob _ (L_holds_l194 NF ob (L_holds_l180 NF ob f) g) _ _ _ _ = L_holds_l194 NF ob (L_holds_l180 NF ob f) g (n32 n) (n32 o) (n32 (sN (gA ob 0) o)) (n32 (s + 1 + 1))
      unfold L_holds_w194
      rw [if_neg (nlt (by clear h; omega) (by clear h; omega) (by clear h; omega))]
      exact l212 NF hNF h hn hc ho (by clear h; omega) (by clear h; omega) _ _ _ 20 NF 0 0 0 0 (by clear h; omega) (by clear h; omega) (by clear h; omega) (fun z => absurd rfl z) (fun z => absurd rfl z) (fun _ q hq => absurd hq (by omega))) (sN (gA ob 0) o) NF 0 (by omega) (by clear h; omega)
    exact this) n NF 0 (by omega) (by clear h; omega)
  exact this
theorem hold_e (NF : Nat) (hNF : 200 < NF) {ob : Rec} {n cap : Nat} (h : DI ob n cap) (hn : n ≤ 8) (hc : cap ≤ 8) : L_holds NF ob (n32 n) = some 1 := by
  unfold L_holds
  have := lpN (fun fuel p => L_holds_l2 NF ob fuel (n32 n) (n32 p)) n (some 1) (fun f => by
    show L_holds_w2 NF ob _ _ _ = _
    unfold L_holds_w2
    rw [if_neg (nlt (by clear h; omega) (by clear h; omega) (by clear h; omega))]
    exact l180 NF hNF h hn hc) (fun f p hp => by
    show L_holds_w2 NF ob (L_holds_l2 NF ob f) _ _ = L_holds_l2 NF ob f (n32 n) (n32 (p + 1))
    unfold L_holds_w2
    rw [if_pos (ylt (by clear h; omega) (by clear h; omega) hp)]
    exact l12 NF hNF h hn hc hp _) n NF 0 (by omega) (by clear h; omega)
  exact this
abbrev NX (k : Rec → Int32 → Int32 → Int32 → Option Int32) (n cap : Nat) (i4 : Int32) : Prop := ∀ ob, DI ob n cap → k ob (n32 n) (n32 cap) (i4 + 4) = some 1
theorem b377 (NF : Nat) (hNF : 200 < NF) (z : Int32) (f : Int32 → Int32) {k : Rec → Int32 → Int32 → Int32 → Option Int32} {n cap : Nat} {i4 : Int32} (nx : NX k n cap i4) {ob : Rec} (h : DI ob n cap) (hn : n ≤ 8) (hc : cap ≤ 8) : L_law_b377 NF z f k ob (n32 n) (n32 cap) i4 = some 1 := by
  unfold L_law_b377
  rw [hold_e NF hNF h hn hc, Option.bind_some, if_neg (by decide)]
  exact nx ob h
theorem dvz_e {γ : Type} {n : Nat} {A : Option γ} (h1 : 0 < n) (h2 : n < 1000) : dvz (n32 n) A = A := by
  unfold dvz; rw [if_neg (show ¬ n32 n = 0 from n32_ne (j := 0) (by omega) (by omega) (by omega))]
theorem l171 (NF : Nat) (hNF : 200 < NF) (z : Int32) (f : Int32 → Int32) {k : Rec → Int32 → Int32 → Int32 → Option Int32} {n cap : Nat} {i4 : Int32} (nx : NX k n cap i4) {ob : Rec} (h : DI ob n cap) (hn : 0 < n ∧ n ≤ 8) (hc : 0 < cap ∧ cap ≤ 8) {e : Int32} {w x o : Nat} (he : e &&& 7 = n32 w) (hw : w < 8) (hx : x < n) (ho : o < n) : ∀ (m fuel t : Nat), m < fuel → t ≤ n * cap → n * cap - t ≤ m → L_law_l171 NF z f k fuel ob (n32 n) (n32 cap) i4 e (n32 x) (n32 o) (n32 t) = some 1 := by
  have nc : n * cap ≤ 64 := Nat.mul_le_mul hn.2 hc.2
  have mc : n32 n * n32 cap = n32 (n * cap) := n32_mul (by clear h; omega) (by clear h; omega)
  have stop : ∀ kk, L_law_w171 NF z f k kk ob (n32 n) (n32 cap) i4 e (n32 x) (n32 o) (n32 (n * cap)) = some 1 := by
    intro kk
    unfold L_law_w171
    rw [mc, if_neg (by rw [lt_i]; clear h; omega)]
    exact b377 NF hNF z f nx h hn.2 hc.2
  intro m
  induction m with
  | zero =>
    intro fuel t hf ht hm
    obtain ⟨g, rfl⟩ : ∃ g, fuel = g + 1 := ⟨fuel - 1, by clear h; omega⟩
    have e' : t = n * cap := by clear h; omega
    rw [e']; exact stop _
  | succ m ih =>
    intro fuel t hf ht hm
    obtain ⟨g, rfl⟩ : ∃ g, fuel = g + 1 := ⟨fuel - 1, by clear h; omega⟩
    by_cases e' : t = n * cap
    · rw [e']; exact stop _
    · have q1 : t / cap ≤ t := Nat.div_le_self _ _
      have q2 : (o + t / cap) % n < n := Nat.mod_lt _ hn.1
      have q3 : (w + t) % cap < cap := Nat.mod_lt _ hc.1
      have a1 : (n32 o + n32 t / n32 cap) % n32 n = n32 ((o + t / cap) % n) := by
        rw [n32_div (by clear h; omega) (by clear h; omega), n32_add (by clear h; omega) (by clear h; omega), n32_mod (by clear h; omega) (by clear h; omega)]
      have a2 : (1 : Int32) + ((e &&& 7) + n32 t) % n32 cap = n32 (1 + (w + t) % cap) := by
        rw [he, n32_add (by clear h; omega) (by clear h; omega), n32_mod (by clear h; omega) (by clear h; omega)]
        exact n32_add (i := 1) (by omega) (by clear h; omega)
      show L_law_w171 NF z f k (L_law_l171 NF z f k g) ob (n32 n) (n32 cap) i4 e (n32 x) (n32 o) (n32 t) = some 1
      unfold L_law_w171
      rw [mc, if_pos (ylt (by clear h; omega) (by clear h; omega) (by clear h; omega)), dvz_e hc.1 (by clear h; omega), dvz_e hn.1 (by clear h; omega), dvz_e hc.1 (by clear h; omega), a1, a2, g_cop h hn.2 hc.2 q2 (by clear h; omega) (by clear h; omega) hx, Option.bind_some, n32_s (by clear h; omega)]
      have nxt := ih g (t + 1) (by clear h; omega) (by clear h; omega) (by clear h; omega)
      obtain ⟨a, r, r1, r2, -⟩ := rcv_e NF hNF h hn.2 hc.2 (p := x) (o := (o + t / cap) % n) (s := 1 + (w + t) % cap) (by clear h; omega) (by clear h; omega) (by clear h; omega)
      by_cases c : 0 < (if 1 + (w + t) % cap ≤ sN (gA ob 0) ((o + t / cap) % n) then n32 (pN (gA ob 5) ((o + t / cap) % n) (1 + (w + t) % cap) x) else -1)
      · rw [if_pos c, r1, bind2_some]; exact b377 NF hNF z f nx r2 hn.2 hc.2
      · rw [if_neg c]; exact nxt
theorem sh3 : ∀ v ∈ List.range 1024, 0 ≤ ((n32 v) >>> ((3 : Int32) &&& 31)).toInt ∧ ((n32 v) >>> ((3 : Int32) &&& 31)).toInt < 200 := by decide +kernel
theorem nonneg_mod {v : Int32} {n : Nat} (h : 0 ≤ v.toInt ∧ v.toInt < 2000) (hn : 0 < n ∧ n ≤ 8) : ∃ k, k < n ∧ v % n32 n = n32 k := by
  obtain ⟨k, k1, k2⟩ := n32_e v h.1
  exact ⟨k % n, Nat.mod_lt _ hn.1, by rw [k1, n32_mod (by omega) (by omega)]⟩
theorem b141 (NF : Nat) (hNF : 200 < NF) (z : Int32) (f : Int32 → Int32) {k : Rec → Int32 → Int32 → Int32 → Option Int32} {n cap : Nat} {i4 : Int32} (nx : NX k n cap i4) {ob : Rec} (h : DI ob n cap) (hn : 2 ≤ n ∧ n ≤ 8) (hc : 0 < cap ∧ cap ≤ 8) {i5' v7 e : Int32} {x o u w : Nat} (h7 : 0 ≤ v7.toInt ∧ v7.toInt < 1024) (hw : e &&& 7 = n32 w) (hw8 : w < 8) (hx : x < n) (ho : o < n) (hu : 1 ≤ u ∧ u ≤ 8) :
    L_law_b141 NF z f k ob (n32 n) (n32 cap) i4 i5' v7 e (n32 x) (n32 o) 1 (n32 w) (n32 u) = some 1 := by
  have fin : ∀ {r : Rec}, DI r n cap → L_law_b377 NF z f k r (n32 n) (n32 cap) i4 = some 1 := fun hr => b377 NF hNF z f nx hr hn.2 hc.2
  have wu : w % u < u := Nat.mod_lt _ hu.1
  have es : (1 : Int32) + n32 w % n32 u = n32 (1 + w % u) := by
    rw [n32_mod (by clear h; omega) (by clear h; omega)]
    exact n32_add (i := 1) (by omega) (by clear h; omega)
  have n1 : n32 n - 1 = n32 (n - 1) := by
    obtain ⟨j, hj⟩ : ∃ j, n = j + 1 := ⟨n - 1, by clear h; omega⟩
    rw [hj, n32_p (by clear h; omega)]; rfl
  have xm : ∀ v : Int32, (0 ≤ v.toInt ∧ v.toInt < 1024) → ∃ q, q < 100 ∧ ((n32 x + 1) + v % n32 (n - 1)) % n32 n = n32 q := by
    intro v hv
    obtain ⟨j, j1, j2⟩ := nonneg_mod (v := v) (n := n - 1) (by clear h; omega) (by clear h; omega)
    have md' : (x + 1 + j) % n < n := Nat.mod_lt _ (by clear h; omega)
    exact ⟨(x + 1 + j) % n, by clear h; omega, by rw [j2, n32_s (by clear h; omega), n32_add (by clear h; omega) (by clear h; omega), n32_mod (by clear h; omega) (by clear h; omega)]⟩
  unfold L_law_b141
  rw [dvz_e hu.1 (by clear h; omega), es, n1]
  by_cases c1 : i5' < 3
  · rw [if_pos c1]
    obtain ⟨a, r, r1, r2, -⟩ := brd_e NF hNF h hn.2 hc.2 (p := x) (by clear h; omega)
    rw [r1, bind2_some]; exact fin r2
  · rw [if_neg c1]
    by_cases c2 : i5' < 8
    · rw [if_pos c2]
      exact l171 NF hNF z f nx h ⟨by clear h; omega, hn.2⟩ hc hw hw8 hx ho 100 NF 0 (by clear h; omega) (Nat.zero_le _) (by have := Nat.mul_le_mul hn.2 hc.2; clear h; omega)
    · rw [if_neg c2]
      by_cases c3 : i5' = 8
      · rw [if_pos c3]
        obtain ⟨a, r, r1, r2, -⟩ := dup_e h hn.2 hc.2 (p := x) (o := o) (s := 1 + w % u) (by clear h; omega) (by clear h; omega) (by clear h; omega)
        rw [r1, bind2_some]; exact fin r2
      · rw [if_neg c3]
        by_cases c4 : i5' = 9
        · rw [if_pos c4]
          obtain ⟨a, r, r1, r2, -⟩ := drp_e h hn.2 hc.2 (p := x) (o := o) (s := 1 + w % u) (by clear h; omega) (by clear h; omega) (by clear h; omega)
          rw [r1, bind2_some]; exact fin r2
        · rw [if_neg c4]
          by_cases c5 : i5' < 12
          · rw [if_pos c5, dvz_e (by clear h; omega) (by clear h; omega), dvz_e (by clear h; omega) (by clear h; omega)]
            have b7 := and_b (e >>> ((3 : Int32) &&& 31)) 7 7 rfl (by decide)
            obtain ⟨q, q1, q2⟩ := xm ((e >>> ((3 : Int32) &&& 31)) &&& 7) (by clear h; omega)
            obtain ⟨a, r, r1, r2, -⟩ := rtx_e h hn.2 hc.2 (q := q) (p := x) (o := o) (s := 1 + w % u) q1 (by clear h; omega) (by clear h; omega) (by clear h; omega)
            rw [q2, r1, bind2_some]; exact fin r2
          · rw [if_neg c5]
            by_cases c6 : i5' < 14
            · rw [if_pos c6, dvz_e (by clear h; omega) (by clear h; omega), dvz_e (by clear h; omega) (by clear h; omega)]
              have b7 := sh3 v7.toInt.toNat (List.mem_range.mpr (by clear h; omega))
              rw [n32_t v7 h7.1] at b7
              obtain ⟨q, q1, q2⟩ := xm (v7 >>> ((3 : Int32) &&& 31)) (by clear h; omega)
              obtain ⟨a, r, r1, r2, -⟩ := gos_e NF hNF h hn.2 hc.2 (p := x) (q := q) (by clear h; omega) q1
              rw [q2, r1, bind2_some]; exact fin r2
            · rw [if_neg c6]
              by_cases c7 : i5' = 14
              · rw [if_pos c7]
                obtain ⟨a, r, r1, r2, -⟩ := prn_e NF hNF h hn.2 hc.2 (p := x) (by clear h; omega) (fun a => cN (fun j => decide (a (n32 j) = 3)) 512) (fun y a u t hy hu' t1 t2 ha => by
                  refine cN_set (j := y * 64 + u * 8 + t - 1) ?_ ?_ 512 (by clear h; omega) (fun i hi ne => ?_)
                  · have ha' : a (n32 (y * 64 + u * 8 + t - 1)) = 2 := ha
                    rw [ha']; rfl
                  · have ha' : up a (i3 y u t) 3 (n32 (y * 64 + u * 8 + t - 1)) = 3 := up_s _ _ _
                    rw [ha']; rfl
                  · have ha' : up a (i3 y u t) 3 (n32 i) = a (n32 i) := up_o (n32_ne (by clear h; omega) (by clear h; omega) ne)
                    rw [ha'])
                rw [r1, bind2_some]; exact fin r2
              · rw [if_neg c7]
                obtain ⟨a, r, r1, r2, -⟩ := crs_e NF hNF h hn.2 hc.2 (p := x) (by clear h; omega)
                rw [r1, bind2_some]; exact fin r2
theorem cell_e {z : Int32} (f : Int32 → Int32) {i : Int32} (hi : 0 ≤ i.toInt) : ∃ v, L_cell z f i = some v := by
  unfold L_cell
  by_cases c : i < z
  · rw [if_pos c, chk_ok ⟨hi, lt_i.mp c⟩]; exact ⟨_, rfl⟩
  · rw [if_neg c]; exact ⟨_, rfl⟩
theorem law_l (NF : Nat) (hNF : 200 < NF) (z : Int32) (f : Int32 → Int32) (hz : 0 ≤ z.toInt ∧ z.toInt ≤ 260) {n cap : Nat} (hn : 2 ≤ n ∧ n ≤ 8) (hc : 0 < cap ∧ cap ≤ 8) : ∀ (m fuel : Nat) (ob : Rec) (i : Int32), m < fuel → DI ob n cap → (0 ≤ i.toInt ∧ i.toInt ≤ 300) → z.toInt - i.toInt ≤ m → L_law_l43 NF z f fuel ob (n32 n) (n32 cap) i = some 1 := by
  intro m
  induction m with
  | zero =>
    intro fuel ob i hf h hi hm
    obtain ⟨g, rfl⟩ : ∃ g, fuel = g + 1 := ⟨fuel - 1, by clear h; omega⟩
    show L_law_w43 NF z f _ ob _ _ i = _
    unfold L_law_w43
    rw [if_neg (by rw [lt_i]; clear h; omega)]
  | succ m ih =>
    intro fuel ob i hf h hi hm
    obtain ⟨g, rfl⟩ : ∃ g, fuel = g + 1 := ⟨fuel - 1, by clear h; omega⟩
    show L_law_w43 NF z f (L_law_l43 NF z f g) ob _ _ i = _
    unfold L_law_w43
    have e1 : (i + 1).toInt = i.toInt + 1 := s1 (by clear h; omega)
    have e2' : (i + 2).toInt = i.toInt + 2 := by rw [ad (by show -2147483648 ≤ i.toInt + 2 ∧ i.toInt + 2 < 2147483648; clear h; omega)]; rfl
    have e3' : (i + 3).toInt = i.toInt + 3 := by rw [ad (by show -2147483648 ≤ i.toInt + 3 ∧ i.toInt + 3 < 2147483648; clear h; omega)]; rfl
    have e4 : (i + 4).toInt = i.toInt + 4 := by rw [ad (by show -2147483648 ≤ i.toInt + 4 ∧ i.toInt + 4 < 2147483648; clear h; omega)]; rfl
    by_cases cz : i < z
    · have cz' : i.toInt < z.toInt := lt_i.mp cz
      obtain ⟨v2, w2⟩ := cell_e (z := z) f (i := i) hi.1
      obtain ⟨v4, w4⟩ := cell_e (z := z) f (i := i + 1) (by rw [e1]; clear h; omega)
      obtain ⟨v6, w6⟩ := cell_e (z := z) f (i := i + 2) (by rw [e2']; clear h; omega)
      obtain ⟨v8, w8⟩ := cell_e (z := z) f (i := i + 3) (by rw [e3']; clear h; omega)
      have nx : NX (L_law_l43 NF z f g) n cap i := fun ob' h' => ih g ob' (i + 4) (by clear h h'; omega) h' (by rw [e4]; clear h h'; omega) (by rw [e4]; clear h h'; omega)
      have b4 := and_b v4 1023 1023 rfl (by decide)
      have b6 := and_b v6 1023 1023 rfl (by decide)
      have b8 := and_b (v8 &&& 1023) 7 7 rfl (by decide)
      obtain ⟨x, x1, x2⟩ := nonneg_mod (v := v4 &&& 1023) (n := n) (by clear h; omega) (by clear h; omega)
      obtain ⟨o, o1, o2⟩ := nonneg_mod (v := v6 &&& 1023) (n := n) (by clear h; omega) (by clear h; omega)
      obtain ⟨w, w1, w1'⟩ := n32_e ((v8 &&& 1023) &&& 7) b8.1
      have sS := (h.2.2.sS o o1).2
      rw [if_pos cz, w2, Option.bind_some, w4, Option.bind_some, w6, Option.bind_some, w8, Option.bind_some, dvz_e (by clear h; omega) (by clear h; omega), dvz_e (by clear h; omega) (by clear h; omega), x2, o2, g_snt h hn.2 o1, Option.bind_some]
      by_cases c : n32 (sN (gA ob 0) o) < 1
      · rw [if_pos c]
        have := b141 NF hNF z f nx h hn hc (i5' := v2 &&& 15) (v7 := v6 &&& 1023) (e := v8 &&& 1023) (x := x) (o := o) (u := 1) (w := w) (by clear h; omega) w1 (by clear h; omega) x1 o1 (by omega)
        rw [w1]; exact this
      · have c' : ¬ ((sN (gA ob 0) o : Nat) : Int) < 1 := by rw [lt_i, nt _ (by clear h; omega)] at c; exact c
        rw [if_neg c]
        have := b141 NF hNF z f nx h hn hc (i5' := v2 &&& 15) (v7 := v6 &&& 1023) (e := v8 &&& 1023) (x := x) (o := o) (u := sN (gA ob 0) o) (w := w) (by clear h; omega) w1 (by clear h; omega) x1 o1 (by clear h; omega)
        rw [w1]; exact this
    · rw [if_neg cz]
theorem owed : ∀ (z : Int32) (f : Int32 → Int32), ¬ z < 0 → z ≤ 260 → ∃ NF, L_law NF z f = some 1 := by
  intro z f h0 h1
  refine ⟨400, ?_⟩
  have h1' : z.toInt ≤ 260 := le_i.mp h1
  obtain ⟨v0, w0⟩ := cell_e (z := z) f (i := 0) (by decide)
  obtain ⟨v1, w1⟩ := cell_e (z := z) f (i := 1) (by decide)
  have b0 := and_b v0 3 3 rfl (by decide)
  have b1 := and_b v1 3 3 rfl (by decide)
  obtain ⟨a, a1, a2⟩ := n32_e (v0 &&& 3) b0.1
  obtain ⟨b, b1', b2⟩ := n32_e (v1 &&& 3) b1.1
  have ea : (2 : Int32) + (v0 &&& 3) = n32 (2 + a) := by rw [a1]; exact n32_add (i := 2) (by omega) (by omega)
  have eb : (2 : Int32) + (v1 &&& 3) = n32 (2 + b) := by rw [b1']; exact n32_add (i := 2) (by omega) (by omega)
  obtain ⟨r, r1, r2, -⟩ := ini_e (n := 2 + a) (cap := 2 + b) (by omega) (by omega)
  unfold L_law
  rw [w0, Option.bind_some, w1, Option.bind_some, ea, eb, r1, Option.bind_some, hold_e 400 (by omega) r2 (by omega) (by omega), Option.bind_some, if_neg (by decide)]
  exact law_l 400 (by omega) z f ⟨nneg' h0, h1'⟩ (by omega) (by omega) 300 400 r 2 (by omega) r2 (by decide) (by show z.toInt - 2 ≤ _; omega)
-- owed : ∀ (z : Int32) (f : Int32 → Int32), ¬ z < 0 → z ≤ 260 → ∃ NF, L_law NF z f = some 1
--COMES--
set_option maxRecDepth 65536 in
set_option maxHeartbeats 4000000 in
theorem comes_1 {Post : Tables → Env → Array Value → State → Outcome → State → Prop} (hpost : ∀ tb e args s v u, (limb_1_1.after args s (.returned v) u = true ∧ limb_1_2.after args s (.returned v) u = true ∧ True) → FrameEnd s (.returned v) u (Jvm.fieldLocs frame_1_writes args s ++ Jvm.arrayLocs frame_1_arrays args s ++ Jvm.staticLocs frame_1_statics s) 32 5440 → Post tb e args s (.returned v) u) :
    ArmFor flags0 classFile x code maxLocals ret World_1 tables_1 room_1 Calls_1 rest_1 Pre_1 Post := by
  intro l hfl _ _ p e ha hc hk s m args below hf hA hF happ hP
  obtain ⟨hcalls, hrest, hpre⟩ := hP
  obtain ⟨-, -, -, hnamed, -, -, -, hat⟩ := (Spec.applies_iff hf).mp happ
  obtain ⟨hg, hn⟩ := and_e (Cond.before_iff.mp (show (Jvm.Cond.and given_1 narrow_1).before args s = true from hpre))
  obtain ⟨hcnt, hg⟩ := and_e hg
  obtain ⟨w0, rfl⟩ : ∃ w0 : Value, args = #[w0] := by
    have hs : args.size = 1 := by simpa [Cond.value, given_1] using hcnt
    obtain ⟨L⟩ := args
    match L, hs with
    | [w0], _ => exact ⟨w0, rfl⟩
  have hw := fun d (hd : d ∈ tables_1) => atoms_spec (ws := Jvm.Cond.code x code maxLocals ret :: tables_1) hat d (List.mem_cons_of_mem _ hd)
  have hfit : Fit s := fun {y c} hc i hi => by
    obtain ⟨ha, rfl⟩ := Array.getElem?_eq_some_iff.mp hc
    have q := List.all_eq_true.mp ((Array.all_eq_true_iff_forall_mem.mp hF) _ (Array.getElem_mem ha)) i (List.mem_range.mpr hi)
    simpa [Array.getElem?_eq_getElem hi] using q
  obtain ⟨n1, n2⟩ := and_e hn
  obtain ⟨sa, ev⟩ := arr_v n1
  obtain rfl : w0 = .ref sa := Option.some.inj ev
  obtain ⟨cl, A⟩ := Arr.start ev n1
  have hsz : cl.slots.size < 2 ^ 31 := by
    rcases Nat.lt_or_ge cl.slots.size (2 ^ 31) with q | q
    · exact q
    · have u : (Term.length (.arg 0)).eval #[.ref sa] s none [] s = none := by
        have v : s.arrayAt? sa = some cl := A.fin (Vm.Alike.refl _)
        have e' : ¬ cl.slots.size < 2 ^ 31 := by omega
        simp only [Term.eval] at ev ⊢
        simp [v, e']
      simp [Cond.value, u] at n2
  obtain ⟨z, hz, F⟩ := Scr.start hfit A hsz
  have hle : z ≤ 260 := by
    have u := len_f (t := .arg 0) (args := #[.ref sa]) (first := s) (o := none) (idx := []) ev (A.fin (Vm.Alike.refl _)) hsz
    rw [hz]; first | (simp only [Cond.value, u] at n2; simpa [Term.eval] using n2) | (simp [Cond.value, u, Term.int_eval] at n2; exact n2) | (simp [Cond.value, u, Term.int_eval] at n2; simpa using n2)
  obtain ⟨NF, hlaw⟩ := owed z (atv cl) F.2.2.1 hle
  have hp := L_law_pay (C := (l, s, s.heap.size, #[.ref sa])) (⟨cl, F, rfl⟩ : ScrF (l, s, s.heap.size, #[.ref sa]) sa z (atv cl)) hlaw hw s.heap (Rep.start s) tables_1
  obtain ⟨n, o, h1, h2, h3, v, L, rfl, ⟨N, G', -, rfl⟩, hq⟩ := hp p e ha hc hk s m _ below hf ((Spec.applies_iff_loose hf).mp happ).1 ⟨rfl, State.Warmed39.refl s, rfl⟩ trivial
  refine ⟨n, _, h1, h2, h3, hpost _ _ _ _ _ _ ⟨Cond.after_iff.mpr rfl, Cond.after_iff.mpr (eq_i res_at (Term.int_eval (1)) rfl), trivial⟩ ⟨hq.1, hq.2.1, (hq.2.2.sift fun y hy => Or.inr (N y hy)).mono (by decide) (by decide)⟩⟩
theorem main_1_1 : Claimed_1_1 := comes_1 fun _ _ _ _ _ _ h hF => ⟨h.1, hF⟩
theorem main_1_2 : Claimed_1_2 := comes_1 fun _ _ _ _ _ _ h hF => ⟨h.2.1, hF⟩
end Jvm.Pilot.@@N@@
namespace Jvm.Pilot.@@N@@
open Jvm Jvm.ClassFile Sem Op Lib Jvm.Free Jvm.Stand Jvm.Pilot.@@N@@.Jvm.D
/-! MADE BY PROGRAM (witnessworld.py) out of the Statement's table words and the real class files: 11 classes; the members and pool entries that the words name. The judged class is class 1, her method 2. -/
namespace start1
open Jvm.ClassFile
def u (s : String) : CpInfo := .utf8 (stringToUtf16 s)
/-- a pool by its gaps: so many unusable entries, then the entry; so many at the end -/
def gap : Nat → List CpInfo → List CpInfo
  | 0, r => r
  | n + 1, r => .unusable :: gap n r
def poolList (es : List (Nat × CpInfo)) (last : Nat) : List CpInfo := es.foldr (fun e r => gap e.1 (e.2 :: r)) (gap last [])
def pool (es : List (Nat × CpInfo)) (last : Nat) : Array CpInfo := ⟨poolList es last⟩
def fileOf (pool : Array CpInfo) (this : Nat) (attrs : Array Attribute := #[]) (ms : Array MethodInfo := #[]) (fl : Nat := 33) (sup : Nat := 0) (ifs : Array Nat := #[]) (fds : Array FieldInfo := #[]) : ClassFile where
  minorVersion := 0
  majorVersion := 65
  constantPool := pool
  accessFlags := fl
  thisClass := this
  superClass := sup
  interfaces := ifs
  fields := fds
  methods := ms
  attributes := attrs
def plain (name : String) (sup : Option ClassId) : Class where
  name := name
  kind := .ordinary
  loader := none
  accessFlags := 33
  super := sup
  interfaces := #[]
  cf := none
  fields := #[]
  methods := #[]
  instanceTypes := #[]
  staticTypes := #[]
  resolved := #[]
  callSites := []
  init := .initialized
  statics := none
  mirror := none

def pool0 : Array CpInfo := pool [(5, u "<init>"), (0, u "()V"), (1, .class_ 10), (1, u "java/lang/Object")] 113

def k0c0 : Code := { maxStack := 0, maxLocals := 1, code := object_method_1_code, exceptionTable := #[], attributes := #[] }
def k0m0 : Method := { name := "<init>", desc := "()V", sig := { parameters := [], returnType := none }, accessFlags := 1, code := some k0c0 }
/-- java/lang/Object -/
def k0 : Class := { plain "java/lang/Object" none with
  accessFlags := 33
  interfaces := #[]
  cf := some (fileOf pool0 8 #[] #[{ accessFlags := 1, nameIndex := 5, descriptorIndex := 6, attributes := #[] }] 33 0 #[] #[])
  fields := #[]
  methods := #[k0m0]
  instanceTypes := #[]
  staticTypes := #[]
  resolved := Array.replicate 124 none
  statics := none }

def pool1 : Array CpInfo := pool [(2, .class_ 4), (1, u "java/lang/Object"), (0, u "<init>"), (0, u "()V"), (0, .methodref 8 9), (0, .class_ 10), (0, .nameAndType 11 12), (0, u "CausalStableOwnLaw"), (0, u "cell"), (0, u "([II)I"), (0, .class_ 14), (0, u "CausalStable"), (0, .methodref 13 16), (0, .nameAndType 5 17), (0, u "(II)V"), (0, .methodref 8 19), (0, .nameAndType 20 21), (0, u "holds"), (0, u "(LCausalStable;I)Z"), (0, .methodref 13 23), (0, .nameAndType 24 25), (0, u "sent"), (0, u "(I)I"), (0, .methodref 13 27), (0, .nameAndType 28 25), (0, u "broadcast"), (0, .methodref 13 30), (0, .nameAndType 31 32), (0, u "copies"), (0, u "(III)I"), (0, .methodref 13 34), (0, .nameAndType 35 32), (0, u "receive"), (0, .methodref 13 37), (0, .nameAndType 38 32), (0, u "duplicate"), (0, .methodref 13 40), (0, .nameAndType 41 32), (0, u "drop"), (0, .methodref 13 43), (0, .nameAndType 44 45), (0, u "retransmit"), (0, u "(IIII)I"), (0, .methodref 13 47), (0, .nameAndType 48 49), (0, u "gossip"), (0, u "(II)I"), (0, .methodref 13 51), (0, .nameAndType 52 25), (0, u "prune"), (0, .methodref 13 54), (0, .nameAndType 55 25), (0, u "crash"), (0, .methodref 13 57), (0, .nameAndType 58 49), (0, u "deliveredAt"), (0, .methodref 13 60), (0, .nameAndType 61 32), (0, u "state"), (0, .methodref 13 63), (0, .nameAndType 64 49), (0, u "delivered"), (0, .methodref 8 66), (0, .nameAndType 67 68), (0, u "countBefore"), (0, u "(LCausalStable;III)I"), (0, .methodref 13 70), (0, .nameAndType 71 32), (0, u "stamp"), (0, .methodref 13 73), (0, .nameAndType 74 75), (0, u "isCrashed"), (0, u "(I)Z"), (0, .methodref 8 77), (0, .nameAndType 78 79), (0, u "has"), (0, u "(LCausalStable;III)Z"), (0, .methodref 13 81), (0, .nameAndType 82 32), (0, u "known"), (3, u "law"), (0, u "([I)Z")] 4

def k1m0 : Method := { name := "<init>", desc := "()V", sig := { parameters := [], returnType := none }, accessFlags := 1, code := none }
def k1c1 : Code := { maxStack := 2, maxLocals := 2, code := method_2_code, exceptionTable := #[], attributes := #[] }
def k1m1 : Method := { name := "cell", desc := "([II)I", sig := { parameters := [(.array .int), .int], returnType := some .int }, accessFlags := 10, code := some k1c1 }
def k1c2 : Code := { maxStack := 6, maxLocals := 16, code := code, exceptionTable := #[], attributes := #[] }
def k1m2 : Method := { name := "law", desc := "([I)Z", sig := { parameters := [(.array .int)], returnType := some .boolean }, accessFlags := 9, code := some k1c2 }
def k1c3 : Code := { maxStack := 3, maxLocals := 6, code := method_4_code, exceptionTable := #[], attributes := #[] }
def k1m3 : Method := { name := "countBefore", desc := "(LCausalStable;III)I", sig := { parameters := [(.object "CausalStable"), .int, .int, .int], returnType := some .int }, accessFlags := 10, code := some k1c3 }
def k1c4 : Code := { maxStack := 4, maxLocals := 5, code := method_5_code, exceptionTable := #[], attributes := #[] }
def k1m4 : Method := { name := "has", desc := "(LCausalStable;III)Z", sig := { parameters := [(.object "CausalStable"), .int, .int, .int], returnType := some .boolean }, accessFlags := 10, code := some k1c4 }
def k1c5 : Code := { maxStack := 6, maxLocals := 10, code := method_6_code, exceptionTable := #[], attributes := #[] }
def k1m5 : Method := { name := "holds", desc := "(LCausalStable;I)Z", sig := { parameters := [(.object "CausalStable"), .int], returnType := some .boolean }, accessFlags := 10, code := some k1c5 }
/-- CausalStableOwnLaw -/
def k1 : Class := { plain "CausalStableOwnLaw" (some 0) with
  accessFlags := 49
  interfaces := #[]
  cf := some (fileOf pool1 8 #[] #[{ accessFlags := 1, nameIndex := 5, descriptorIndex := 6, attributes := #[] }, { accessFlags := 10, nameIndex := 11, descriptorIndex := 12, attributes := #[] }, { accessFlags := 9, nameIndex := 86, descriptorIndex := 87, attributes := #[] }, { accessFlags := 10, nameIndex := 67, descriptorIndex := 68, attributes := #[] }, { accessFlags := 10, nameIndex := 78, descriptorIndex := 79, attributes := #[] }, { accessFlags := 10, nameIndex := 20, descriptorIndex := 21, attributes := #[] }] 49 2 #[] #[])
  fields := #[]
  methods := #[k1m0, k1m1, k1m2, k1m3, k1m4, k1m5]
  instanceTypes := #[]
  staticTypes := #[]
  resolved := Array.replicate 92 none
  statics := none }

def pool2 : Array CpInfo := pool [(1, .methodref 2 3), (0, .class_ 4), (0, .nameAndType 5 6), (0, u "java/lang/Object"), (0, u "<init>"), (0, u "()V"), (0, .fieldref 8 9), (0, .class_ 10), (0, .nameAndType 11 12), (0, u "CausalStable"), (0, u "sentCount"), (0, u "[I"), (0, .fieldref 8 14), (0, .nameAndType 15 16), (0, u "crashedFlag"), (0, u "[Z"), (0, .fieldref 8 18), (0, .nameAndType 19 12), (0, u "del"), (0, .fieldref 8 21), (0, .nameAndType 22 12), (0, u "msgState"), (0, .fieldref 8 24), (0, .nameAndType 25 12), (0, u "stampArr"), (0, .fieldref 8 27), (0, .nameAndType 28 12), (0, u "copyArr"), (0, .fieldref 8 30), (0, .nameAndType 31 12), (0, u "known"), (0, .fieldref 8 33), (0, .nameAndType 34 12), (0, u "list"), (0, .fieldref 8 36), (0, .nameAndType 37 12), (0, u "listLen"), (0, .fieldref 8 39), (0, .nameAndType 40 41), (0, u "n"), (0, u "I"), (0, .fieldref 8 43), (0, .nameAndType 44 41), (0, u "cap"), (0, .methodref 8 46), (0, .nameAndType 47 48), (0, u "stateIndex"), (0, u "(III)I"), (0, .methodref 8 50), (0, .nameAndType 51 48), (0, u "knownIndex"), (0, .methodref 8 53), (0, .nameAndType 54 55), (0, u "exists"), (0, u "(II)Z"), (0, .methodref 8 57), (0, .nameAndType 58 59), (0, u "msgIndex"), (0, u "(II)I"), (0, .methodref 8 61), (0, .nameAndType 62 63), (0, u "isDeliverable"), (0, u "(III)Z"), (0, .methodref 8 65), (0, .nameAndType 66 67), (0, u "deliverAt"), (0, u "(III)V"), (0, .methodref 8 69), (0, .nameAndType 70 71), (0, u "validProc"), (0, u "(I)Z"), (0, .methodref 8 73), (0, .nameAndType 74 48), (0, u "copyIndex"), (0, .methodref 8 76), (0, .nameAndType 77 78), (0, u "cascade"), (0, u "(I)I"), (0, .methodref 8 80), (0, .nameAndType 81 63), (0, u "isStable"), (0, .methodref 8 83), (0, .nameAndType 84 71), (0, u "othersAllCrashed"), (0, u "OK"), (2, u "BAD"), (1, u "CRASHED"), (1, u "FULL"), (1, u "NO_COPY"), (1, u "DUPLICATE"), (1, u "NOT_LOGGED"), (1, u "LAST"), (1, u "NONE"), (0, u "HELD"), (1, u "LOGGED"), (1, u "PRUNED"), (1, u "MAX_COPIES"), (0, u "(II)V"), (3, u "broadcast"), (1, u "receive"), (0, u "duplicate"), (0, u "drop"), (0, u "retransmit"), (0, u "(IIII)I"), (0, u "gossip"), (0, u "prune"), (0, u "crash"), (0, u "sent"), (0, u "stamp"), (0, u "copies"), (0, u "state"), (0, u "delivered"), (0, u "deliveredAt"), (0, u "isCrashed")] 2

def k2c0 : Code := { maxStack := 2, maxLocals := 5, code := prog_1_method_1_code, exceptionTable := #[], attributes := #[] }
def k2m0 : Method := { name := "<init>", desc := "(II)V", sig := { parameters := [.int, .int], returnType := none }, accessFlags := 1, code := some k2c0 }
def k2c1 : Code := { maxStack := 2, maxLocals := 2, code := prog_1_method_2_code, exceptionTable := #[], attributes := #[] }
def k2m1 : Method := { name := "validProc", desc := "(I)Z", sig := { parameters := [.int], returnType := some .boolean }, accessFlags := 2, code := some k2c1 }
def k2c2 : Code := { maxStack := 3, maxLocals := 3, code := prog_1_method_3_code, exceptionTable := #[], attributes := #[] }
def k2m2 : Method := { name := "exists", desc := "(II)Z", sig := { parameters := [.int, .int], returnType := some .boolean }, accessFlags := 2, code := some k2c2 }
def k2c3 : Code := { maxStack := 2, maxLocals := 3, code := prog_1_method_4_code, exceptionTable := #[], attributes := #[] }
def k2m3 : Method := { name := "msgIndex", desc := "(II)I", sig := { parameters := [.int, .int], returnType := some .int }, accessFlags := 2, code := some k2c3 }
def k2c4 : Code := { maxStack := 3, maxLocals := 4, code := prog_1_method_5_code, exceptionTable := #[], attributes := #[] }
def k2m4 : Method := { name := "stateIndex", desc := "(III)I", sig := { parameters := [.int, .int, .int], returnType := some .int }, accessFlags := 2, code := some k2c4 }
def k2c5 : Code := { maxStack := 2, maxLocals := 4, code := prog_1_method_6_code, exceptionTable := #[], attributes := #[] }
def k2m5 : Method := { name := "copyIndex", desc := "(III)I", sig := { parameters := [.int, .int, .int], returnType := some .int }, accessFlags := 2, code := some k2c5 }
def k2c6 : Code := { maxStack := 3, maxLocals := 4, code := prog_1_method_7_code, exceptionTable := #[], attributes := #[] }
def k2m6 : Method := { name := "knownIndex", desc := "(III)I", sig := { parameters := [.int, .int, .int], returnType := some .int }, accessFlags := 2, code := some k2c6 }
def k2c7 : Code := { maxStack := 5, maxLocals := 7, code := prog_1_method_8_code, exceptionTable := #[], attributes := #[] }
def k2m7 : Method := { name := "deliverAt", desc := "(III)V", sig := { parameters := [.int, .int, .int], returnType := none }, accessFlags := 2, code := some k2c7 }
def k2c8 : Code := { maxStack := 4, maxLocals := 7, code := prog_1_method_9_code, exceptionTable := #[], attributes := #[] }
def k2m8 : Method := { name := "isDeliverable", desc := "(III)Z", sig := { parameters := [.int, .int, .int], returnType := some .boolean }, accessFlags := 2, code := some k2c8 }
def k2c9 : Code := { maxStack := 4, maxLocals := 8, code := prog_1_method_10_code, exceptionTable := #[], attributes := #[] }
def k2m9 : Method := { name := "cascade", desc := "(I)I", sig := { parameters := [.int], returnType := some .int }, accessFlags := 2, code := some k2c9 }
def k2c10 : Code := { maxStack := 4, maxLocals := 6, code := prog_1_method_11_code, exceptionTable := #[], attributes := #[] }
def k2m10 : Method := { name := "isStable", desc := "(III)Z", sig := { parameters := [.int, .int, .int], returnType := some .boolean }, accessFlags := 2, code := some k2c10 }
def k2c11 : Code := { maxStack := 2, maxLocals := 3, code := prog_1_method_12_code, exceptionTable := #[], attributes := #[] }
def k2m11 : Method := { name := "othersAllCrashed", desc := "(I)Z", sig := { parameters := [.int], returnType := some .boolean }, accessFlags := 2, code := some k2c11 }
def k2c12 : Code := { maxStack := 5, maxLocals := 5, code := prog_1_method_13_code, exceptionTable := #[], attributes := #[] }
def k2m12 : Method := { name := "broadcast", desc := "(I)I", sig := { parameters := [.int], returnType := some .int }, accessFlags := 1, code := some k2c12 }
def k2c13 : Code := { maxStack := 4, maxLocals := 6, code := prog_1_method_14_code, exceptionTable := #[], attributes := #[] }
def k2m13 : Method := { name := "receive", desc := "(III)I", sig := { parameters := [.int, .int, .int], returnType := some .int }, accessFlags := 1, code := some k2c13 }
def k2c14 : Code := { maxStack := 4, maxLocals := 5, code := prog_1_method_15_code, exceptionTable := #[], attributes := #[] }
def k2m14 : Method := { name := "duplicate", desc := "(III)I", sig := { parameters := [.int, .int, .int], returnType := some .int }, accessFlags := 1, code := some k2c14 }
def k2c15 : Code := { maxStack := 4, maxLocals := 5, code := prog_1_method_16_code, exceptionTable := #[], attributes := #[] }
def k2m15 : Method := { name := "drop", desc := "(III)I", sig := { parameters := [.int, .int, .int], returnType := some .int }, accessFlags := 1, code := some k2c15 }
def k2c16 : Code := { maxStack := 4, maxLocals := 7, code := prog_1_method_17_code, exceptionTable := #[], attributes := #[] }
def k2m16 : Method := { name := "retransmit", desc := "(IIII)I", sig := { parameters := [.int, .int, .int, .int], returnType := some .int }, accessFlags := 1, code := some k2c16 }
def k2c17 : Code := { maxStack := 4, maxLocals := 7, code := prog_1_method_18_code, exceptionTable := #[], attributes := #[] }
def k2m17 : Method := { name := "gossip", desc := "(II)I", sig := { parameters := [.int, .int], returnType := some .int }, accessFlags := 1, code := some k2c17 }
def k2c18 : Code := { maxStack := 4, maxLocals := 7, code := prog_1_method_19_code, exceptionTable := #[], attributes := #[] }
def k2m18 : Method := { name := "prune", desc := "(I)I", sig := { parameters := [.int], returnType := some .int }, accessFlags := 1, code := some k2c18 }
def k2c19 : Code := { maxStack := 3, maxLocals := 2, code := prog_1_method_20_code, exceptionTable := #[], attributes := #[] }
def k2m19 : Method := { name := "crash", desc := "(I)I", sig := { parameters := [.int], returnType := some .int }, accessFlags := 1, code := some k2c19 }
def k2c20 : Code := { maxStack := 2, maxLocals := 2, code := prog_1_method_21_code, exceptionTable := #[], attributes := #[] }
def k2m20 : Method := { name := "sent", desc := "(I)I", sig := { parameters := [.int], returnType := some .int }, accessFlags := 1, code := some k2c20 }
def k2c21 : Code := { maxStack := 3, maxLocals := 5, code := prog_1_method_22_code, exceptionTable := #[], attributes := #[] }
def k2m21 : Method := { name := "stamp", desc := "(III)I", sig := { parameters := [.int, .int, .int], returnType := some .int }, accessFlags := 1, code := some k2c21 }
def k2c22 : Code := { maxStack := 4, maxLocals := 5, code := prog_1_method_23_code, exceptionTable := #[], attributes := #[] }
def k2m22 : Method := { name := "copies", desc := "(III)I", sig := { parameters := [.int, .int, .int], returnType := some .int }, accessFlags := 1, code := some k2c22 }
def k2c23 : Code := { maxStack := 4, maxLocals := 5, code := prog_1_method_24_code, exceptionTable := #[], attributes := #[] }
def k2m23 : Method := { name := "state", desc := "(III)I", sig := { parameters := [.int, .int, .int], returnType := some .int }, accessFlags := 1, code := some k2c23 }
def k2c24 : Code := { maxStack := 3, maxLocals := 3, code := prog_1_method_25_code, exceptionTable := #[], attributes := #[] }
def k2m24 : Method := { name := "delivered", desc := "(II)I", sig := { parameters := [.int, .int], returnType := some .int }, accessFlags := 1, code := some k2c24 }
def k2c25 : Code := { maxStack := 3, maxLocals := 3, code := prog_1_method_26_code, exceptionTable := #[], attributes := #[] }
def k2m25 : Method := { name := "deliveredAt", desc := "(II)I", sig := { parameters := [.int, .int], returnType := some .int }, accessFlags := 1, code := some k2c25 }
def k2c26 : Code := { maxStack := 4, maxLocals := 5, code := prog_1_method_27_code, exceptionTable := #[], attributes := #[] }
def k2m26 : Method := { name := "known", desc := "(III)I", sig := { parameters := [.int, .int, .int], returnType := some .int }, accessFlags := 1, code := some k2c26 }
def k2c27 : Code := { maxStack := 2, maxLocals := 2, code := prog_1_method_28_code, exceptionTable := #[], attributes := #[] }
def k2m27 : Method := { name := "isCrashed", desc := "(I)Z", sig := { parameters := [.int], returnType := some .boolean }, accessFlags := 1, code := some k2c27 }
/-- CausalStable -/
def k2 : Class := { plain "CausalStable" (some 0) with
  accessFlags := 49
  interfaces := #[]
  cf := some (fileOf pool2 8 #[] #[{ accessFlags := 1, nameIndex := 5, descriptorIndex := 110, attributes := #[] }, { accessFlags := 2, nameIndex := 70, descriptorIndex := 71, attributes := #[] }, { accessFlags := 2, nameIndex := 54, descriptorIndex := 55, attributes := #[] }, { accessFlags := 2, nameIndex := 58, descriptorIndex := 59, attributes := #[] }, { accessFlags := 2, nameIndex := 47, descriptorIndex := 48, attributes := #[] }, { accessFlags := 2, nameIndex := 74, descriptorIndex := 48, attributes := #[] }, { accessFlags := 2, nameIndex := 51, descriptorIndex := 48, attributes := #[] }, { accessFlags := 2, nameIndex := 66, descriptorIndex := 67, attributes := #[] }, { accessFlags := 2, nameIndex := 62, descriptorIndex := 63, attributes := #[] }, { accessFlags := 2, nameIndex := 77, descriptorIndex := 78, attributes := #[] }, { accessFlags := 2, nameIndex := 81, descriptorIndex := 63, attributes := #[] }, { accessFlags := 2, nameIndex := 84, descriptorIndex := 71, attributes := #[] }, { accessFlags := 1, nameIndex := 114, descriptorIndex := 78, attributes := #[] }, { accessFlags := 1, nameIndex := 116, descriptorIndex := 48, attributes := #[] }, { accessFlags := 1, nameIndex := 117, descriptorIndex := 48, attributes := #[] }, { accessFlags := 1, nameIndex := 118, descriptorIndex := 48, attributes := #[] }, { accessFlags := 1, nameIndex := 119, descriptorIndex := 120, attributes := #[] }, { accessFlags := 1, nameIndex := 121, descriptorIndex := 59, attributes := #[] }, { accessFlags := 1, nameIndex := 122, descriptorIndex := 78, attributes := #[] }, { accessFlags := 1, nameIndex := 123, descriptorIndex := 78, attributes := #[] }, { accessFlags := 1, nameIndex := 124, descriptorIndex := 78, attributes := #[] }, { accessFlags := 1, nameIndex := 125, descriptorIndex := 48, attributes := #[] }, { accessFlags := 1, nameIndex := 126, descriptorIndex := 48, attributes := #[] }, { accessFlags := 1, nameIndex := 127, descriptorIndex := 48, attributes := #[] }, { accessFlags := 1, nameIndex := 128, descriptorIndex := 59, attributes := #[] }, { accessFlags := 1, nameIndex := 129, descriptorIndex := 59, attributes := #[] }, { accessFlags := 1, nameIndex := 31, descriptorIndex := 48, attributes := #[] }, { accessFlags := 1, nameIndex := 130, descriptorIndex := 71, attributes := #[] }] 49 2 #[] #[{ accessFlags := 25, nameIndex := 85, descriptorIndex := 41, attributes := #[] }, { accessFlags := 25, nameIndex := 88, descriptorIndex := 41, attributes := #[] }, { accessFlags := 25, nameIndex := 90, descriptorIndex := 41, attributes := #[] }, { accessFlags := 25, nameIndex := 92, descriptorIndex := 41, attributes := #[] }, { accessFlags := 25, nameIndex := 94, descriptorIndex := 41, attributes := #[] }, { accessFlags := 25, nameIndex := 96, descriptorIndex := 41, attributes := #[] }, { accessFlags := 25, nameIndex := 98, descriptorIndex := 41, attributes := #[] }, { accessFlags := 25, nameIndex := 100, descriptorIndex := 41, attributes := #[] }, { accessFlags := 25, nameIndex := 102, descriptorIndex := 41, attributes := #[] }, { accessFlags := 25, nameIndex := 103, descriptorIndex := 41, attributes := #[] }, { accessFlags := 25, nameIndex := 105, descriptorIndex := 41, attributes := #[] }, { accessFlags := 25, nameIndex := 107, descriptorIndex := 41, attributes := #[] }, { accessFlags := 25, nameIndex := 109, descriptorIndex := 41, attributes := #[] }, { accessFlags := 2, nameIndex := 40, descriptorIndex := 41, attributes := #[] }, { accessFlags := 2, nameIndex := 44, descriptorIndex := 41, attributes := #[] }, { accessFlags := 2, nameIndex := 11, descriptorIndex := 12, attributes := #[] }, { accessFlags := 2, nameIndex := 15, descriptorIndex := 16, attributes := #[] }, { accessFlags := 2, nameIndex := 19, descriptorIndex := 12, attributes := #[] }, { accessFlags := 2, nameIndex := 22, descriptorIndex := 12, attributes := #[] }, { accessFlags := 2, nameIndex := 25, descriptorIndex := 12, attributes := #[] }, { accessFlags := 2, nameIndex := 28, descriptorIndex := 12, attributes := #[] }, { accessFlags := 2, nameIndex := 31, descriptorIndex := 12, attributes := #[] }, { accessFlags := 2, nameIndex := 34, descriptorIndex := 12, attributes := #[] }, { accessFlags := 2, nameIndex := 37, descriptorIndex := 12, attributes := #[] }])
  fields := #[{ name := "OK", type := .int, accessFlags := 25, slot := 0, constantValue := 0 }, { name := "BAD", type := .int, accessFlags := 25, slot := 1, constantValue := 0 }, { name := "CRASHED", type := .int, accessFlags := 25, slot := 2, constantValue := 0 }, { name := "FULL", type := .int, accessFlags := 25, slot := 3, constantValue := 0 }, { name := "NO_COPY", type := .int, accessFlags := 25, slot := 4, constantValue := 0 }, { name := "DUPLICATE", type := .int, accessFlags := 25, slot := 5, constantValue := 0 }, { name := "NOT_LOGGED", type := .int, accessFlags := 25, slot := 6, constantValue := 0 }, { name := "LAST", type := .int, accessFlags := 25, slot := 7, constantValue := 0 }, { name := "NONE", type := .int, accessFlags := 25, slot := 8, constantValue := 0 }, { name := "HELD", type := .int, accessFlags := 25, slot := 9, constantValue := 0 }, { name := "LOGGED", type := .int, accessFlags := 25, slot := 10, constantValue := 0 }, { name := "PRUNED", type := .int, accessFlags := 25, slot := 11, constantValue := 0 }, { name := "MAX_COPIES", type := .int, accessFlags := 25, slot := 12, constantValue := 0 }, { name := "n", type := .int, accessFlags := 2, slot := 0, constantValue := 0 }, { name := "cap", type := .int, accessFlags := 2, slot := 1, constantValue := 0 }, { name := "sentCount", type := (.array .int), accessFlags := 2, slot := 2, constantValue := 0 }, { name := "crashedFlag", type := (.array .boolean), accessFlags := 2, slot := 3, constantValue := 0 }, { name := "del", type := (.array .int), accessFlags := 2, slot := 4, constantValue := 0 }, { name := "msgState", type := (.array .int), accessFlags := 2, slot := 5, constantValue := 0 }, { name := "stampArr", type := (.array .int), accessFlags := 2, slot := 6, constantValue := 0 }, { name := "copyArr", type := (.array .int), accessFlags := 2, slot := 7, constantValue := 0 }, { name := "known", type := (.array .int), accessFlags := 2, slot := 8, constantValue := 0 }, { name := "list", type := (.array .int), accessFlags := 2, slot := 9, constantValue := 0 }, { name := "listLen", type := (.array .int), accessFlags := 2, slot := 10, constantValue := 0 }]
  methods := #[k2m0, k2m1, k2m2, k2m3, k2m4, k2m5, k2m6, k2m7, k2m8, k2m9, k2m10, k2m11, k2m12, k2m13, k2m14, k2m15, k2m16, k2m17, k2m18, k2m19, k2m20, k2m21, k2m22, k2m23, k2m24, k2m25, k2m26, k2m27]
  instanceTypes := #[.int, .int, (.array .int), (.array .boolean), (.array .int), (.array .int), (.array .int), (.array .int), (.array .int), (.array .int), (.array .int)]
  staticTypes := #[.int, .int, .int, .int, .int, .int, .int, .int, .int, .int, .int, .int, .int]
  resolved := Array.replicate 133 none
  statics := none }

def pool3 : Array CpInfo := pool [(1, u "java/lang/Cloneable"), (0, .class_ 1), (0, u "java/lang/Object"), (0, .class_ 3)] 3

/-- java/lang/Cloneable -/
def k3 : Class := { plain "java/lang/Cloneable" (some 0) with
  accessFlags := 1537
  interfaces := #[]
  cf := some (fileOf pool3 2 #[] #[] 1537 4 #[] #[])
  fields := #[]
  methods := #[]
  instanceTypes := #[]
  staticTypes := #[]
  resolved := Array.replicate 8 none
  statics := none }

def pool4 : Array CpInfo := pool [(1, u "java/io/Serializable"), (0, .class_ 1), (0, u "java/lang/Object"), (0, .class_ 3)] 3

/-- java/io/Serializable -/
def k4 : Class := { plain "java/io/Serializable" (some 0) with
  accessFlags := 1537
  interfaces := #[]
  cf := some (fileOf pool4 2 #[] #[] 1537 4 #[] #[])
  fields := #[]
  methods := #[]
  instanceTypes := #[]
  staticTypes := #[]
  resolved := Array.replicate 8 none
  statics := none }

/-- the primitive boolean -/
def k5 : Class := { plain "boolean" none with kind := .primitive 'Z', accessFlags := 0x411 }
/-- [Z -/
def k6 : Class := { plain "[Z" (some 0) with kind := .array 5 .boolean, interfaces := #[3, 4], accessFlags := 1041 }

/-- the primitive byte -/
def k7 : Class := { plain "byte" none with kind := .primitive 'B', accessFlags := 0x411 }
/-- [B -/
def k8 : Class := { plain "[B" (some 0) with kind := .array 7 .byte, interfaces := #[3, 4], accessFlags := 1041 }

/-- the primitive int -/
def k9 : Class := { plain "int" none with kind := .primitive 'I', accessFlags := 0x411 }
/-- [I -/
def k10 : Class := { plain "[I" (some 0) with kind := .array 9 .int, interfaces := #[3, 4], accessFlags := 1041 }

def heap : Heap := #[{ cls := 10, slots := #[.int 0, .int 1, .int 2, .int 3, .int 6, .int 1], vm := .none }]
def classes : Array Class := #[k0, k1, k2, k3, k4, k5, k6, k7, k8, k9, k10]
def interned : List (Array UInt16 × Addr) := []
def slotsUsed : Nat := 6
def theMethod : MethodId := ⟨1, 2⟩
def args0 : Array Value := #[.ref 0]
def aboutOver (below : List Frame) : State where
  vm := { classes := classes, interned := interned.toArray }
  heap := heap
  slotsUsed := slotsUsed
  threads := #[{ frames := .invoking theMethod args0 :: below }]
def below0 : List Frame := [.native { method := ⟨0, 0⟩, args := #[] }]
def about1 : State := aboutOver below0
def p0 : Program := .bare "" "" ""
def e0 : Env := launch0.env 0 0 0
theorem w_frames : about1.frames = Frame.invoking theMethod args0 :: below0 := rfl
set_option maxRecDepth 65536 in
theorem w_args : argsFit about1.vm theMethod args0 = true := by decide +kernel
set_option maxRecDepth 65536 in
theorem w_heap : heapFits about1 = true := by decide +kernel
set_option maxRecDepth 65536 in
theorem w_runnable : about1.curStatus? = some .runnable := by decide +kernel
set_option maxRecDepth 65536 in
theorem w_alone : about1.alone = true := by decide +kernel
set_option maxRecDepth 65536 in
theorem w_named : about1.methodNamed? x = some theMethod := by decide +kernel
set_option maxRecDepth 65536 in
theorem w_hears : about1.hears theMethod below0 = true := by decide +kernel
set_option maxRecDepth 65536 in
theorem w_ripe : about1.ripe theMethod args0 below0 = true := by decide +kernel
theorem w_running : about1.status = .running := rfl
set_option maxRecDepth 65536 in
theorem w_room : about1.hasRoom e0.platform room_1 = true :=
  launch0.hasRoom_least _ room_1 (by decide +kernel) (by decide +kernel) (by decide +kernel) (by decide +kernel) (by decide +kernel) (by decide +kernel)
theorem allAtoms_all (ts : List Jvm.Cond) (a : Array Jvm.Value) (st : Jvm.State) : (allAtoms ts).before a st = ts.all (fun c => c.before a st) := by
  induction ts with
  | nil => rfl
  | cons c t ih =>
    show (Jvm.Cond.and c (allAtoms t)).before a st = _
    rw [Jvm.Cond.before_and, ih, List.all_cons]
def words1 : List Jvm.Cond := Jvm.Cond.code x code maxLocals ret :: tables_1
/-- a 'code' word, met by the world's own term for the bytes: nothing is compared byte by byte -/
theorem code_word {y : MethodName} {bytes : ByteArray} {mx : Nat} {rt : Option FieldType} {a : Array Value} {s : State} {m : MethodId} {meth : Method} {c : Code} (h1 : s.methodNamed? y = some m) (h2 : s.vm.method? m = some meth) (h3 : meth.code = some c) (h4 : c.code = bytes)
    (h5 : (c.maxLocals == mx && c.exceptionTable.isEmpty && decide (c.maxStack ≤ mostOperands) && decide (meth.sig.returnType = rt) && !meth.locks && decide (parseMethodDescriptor y.desc = some meth.sig)) = true) : (Jvm.Cond.code y bytes mx rt).before a s = true := by
  simp only [Bool.and_eq_true, beq_iff_eq, Bool.not_eq_true', decide_eq_true_eq] at h5
  obtain ⟨⟨⟨⟨⟨g1, g2⟩, g3⟩, g4⟩, g5⟩, g6⟩ := h5
  simp [Cond.before, Cond.holds, Cond.value, h1, h2, h3, h4, g1, g2, g3, g4, g5, g6]
def isCode : Jvm.Cond → Bool
  | .code _ _ _ _ => true
  | _ => false
theorem all_split {L : List Jvm.Cond} {P : Jvm.Cond → Bool} (h1 : L.all (fun c => isCode c || P c) = true) (h2 : ∀ c ∈ L.filter isCode, P c = true) : L.all P = true := by
  refine List.all_eq_true.mpr fun c hc => ?_
  have h := List.all_eq_true.mp h1 c hc
  rcases Bool.eq_false_or_eq_true (isCode c) with hi | hi
  · exact h2 c (List.mem_filter.mpr ⟨hc, hi⟩)
  · simpa [hi] using h
set_option maxRecDepth 65536 in
theorem w_c0 : (Jvm.Cond.code x code maxLocals ret).before args0 about1 = true := code_word (m := ⟨1, 2⟩) (meth := k1m2) (c := k1c2) (by decide +kernel) rfl rfl rfl (by decide +kernel)
set_option maxRecDepth 65536 in
theorem w_c1 : (Jvm.Cond.code ({ cls := "CausalStableOwnLaw", name := "cell", desc := "([II)I" } : Jvm.MethodName) method_2_code (2 : Nat) (Option.some Jvm.ClassFile.FieldType.int)).before args0 about1 = true := code_word (m := ⟨1, 1⟩) (meth := k1m1) (c := k1c1) (by decide +kernel) rfl rfl rfl (by decide +kernel)
set_option maxRecDepth 65536 in
theorem w_c2 : (Jvm.Cond.code ({ cls := "CausalStable", name := "<init>", desc := "(II)V" } : Jvm.MethodName) prog_1_method_1_code (5 : Nat) (Option.none : Option Jvm.ClassFile.FieldType)).before args0 about1 = true := code_word (m := ⟨2, 0⟩) (meth := k2m0) (c := k2c0) (by decide +kernel) rfl rfl rfl (by decide +kernel)
set_option maxRecDepth 65536 in
theorem w_c3 : (Jvm.Cond.code ({ cls := "java/lang/Object", name := "<init>", desc := "()V" } : Jvm.MethodName) object_method_1_code (1 : Nat) (Option.none : Option Jvm.ClassFile.FieldType)).before args0 about1 = true := code_word (m := ⟨0, 0⟩) (meth := k0m0) (c := k0c0) (by decide +kernel) rfl rfl rfl (by decide +kernel)
set_option maxRecDepth 65536 in
theorem w_c4 : (Jvm.Cond.code ({ cls := "CausalStableOwnLaw", name := "holds", desc := "(LCausalStable;I)Z" } : Jvm.MethodName) method_6_code (10 : Nat) (Option.some Jvm.ClassFile.FieldType.boolean)).before args0 about1 = true := code_word (m := ⟨1, 5⟩) (meth := k1m5) (c := k1c5) (by decide +kernel) rfl rfl rfl (by decide +kernel)
set_option maxRecDepth 65536 in
theorem w_c5 : (Jvm.Cond.code ({ cls := "CausalStable", name := "delivered", desc := "(II)I" } : Jvm.MethodName) prog_1_method_25_code (3 : Nat) (Option.some Jvm.ClassFile.FieldType.int)).before args0 about1 = true := code_word (m := ⟨2, 24⟩) (meth := k2m24) (c := k2c24) (by decide +kernel) rfl rfl rfl (by decide +kernel)
set_option maxRecDepth 65536 in
theorem w_c6 : (Jvm.Cond.code ({ cls := "CausalStable", name := "validProc", desc := "(I)Z" } : Jvm.MethodName) prog_1_method_2_code (2 : Nat) (Option.some Jvm.ClassFile.FieldType.boolean)).before args0 about1 = true := code_word (m := ⟨2, 1⟩) (meth := k2m1) (c := k2c1) (by decide +kernel) rfl rfl rfl (by decide +kernel)
set_option maxRecDepth 65536 in
theorem w_c7 : (Jvm.Cond.code ({ cls := "CausalStable", name := "sent", desc := "(I)I" } : Jvm.MethodName) prog_1_method_21_code (2 : Nat) (Option.some Jvm.ClassFile.FieldType.int)).before args0 about1 = true := code_word (m := ⟨2, 20⟩) (meth := k2m20) (c := k2c20) (by decide +kernel) rfl rfl rfl (by decide +kernel)
set_option maxRecDepth 65536 in
theorem w_c8 : (Jvm.Cond.code ({ cls := "CausalStable", name := "known", desc := "(III)I" } : Jvm.MethodName) prog_1_method_27_code (5 : Nat) (Option.some Jvm.ClassFile.FieldType.int)).before args0 about1 = true := code_word (m := ⟨2, 26⟩) (meth := k2m26) (c := k2c26) (by decide +kernel) rfl rfl rfl (by decide +kernel)
set_option maxRecDepth 65536 in
theorem w_c9 : (Jvm.Cond.code ({ cls := "CausalStable", name := "knownIndex", desc := "(III)I" } : Jvm.MethodName) prog_1_method_7_code (4 : Nat) (Option.some Jvm.ClassFile.FieldType.int)).before args0 about1 = true := code_word (m := ⟨2, 6⟩) (meth := k2m6) (c := k2c6) (by decide +kernel) rfl rfl rfl (by decide +kernel)
set_option maxRecDepth 65536 in
theorem w_c10 : (Jvm.Cond.code ({ cls := "CausalStable", name := "broadcast", desc := "(I)I" } : Jvm.MethodName) prog_1_method_13_code (5 : Nat) (Option.some Jvm.ClassFile.FieldType.int)).before args0 about1 = true := code_word (m := ⟨2, 12⟩) (meth := k2m12) (c := k2c12) (by decide +kernel) rfl rfl rfl (by decide +kernel)
set_option maxRecDepth 65536 in
theorem w_c11 : (Jvm.Cond.code ({ cls := "CausalStable", name := "msgIndex", desc := "(II)I" } : Jvm.MethodName) prog_1_method_4_code (3 : Nat) (Option.some Jvm.ClassFile.FieldType.int)).before args0 about1 = true := code_word (m := ⟨2, 3⟩) (meth := k2m3) (c := k2c3) (by decide +kernel) rfl rfl rfl (by decide +kernel)
set_option maxRecDepth 65536 in
theorem w_c12 : (Jvm.Cond.code ({ cls := "CausalStable", name := "deliverAt", desc := "(III)V" } : Jvm.MethodName) prog_1_method_8_code (7 : Nat) (Option.none : Option Jvm.ClassFile.FieldType)).before args0 about1 = true := code_word (m := ⟨2, 7⟩) (meth := k2m7) (c := k2c7) (by decide +kernel) rfl rfl rfl (by decide +kernel)
set_option maxRecDepth 65536 in
theorem w_c13 : (Jvm.Cond.code ({ cls := "CausalStable", name := "stateIndex", desc := "(III)I" } : Jvm.MethodName) prog_1_method_5_code (4 : Nat) (Option.some Jvm.ClassFile.FieldType.int)).before args0 about1 = true := code_word (m := ⟨2, 4⟩) (meth := k2m4) (c := k2c4) (by decide +kernel) rfl rfl rfl (by decide +kernel)
set_option maxRecDepth 65536 in
theorem w_c14 : (Jvm.Cond.code ({ cls := "CausalStable", name := "deliveredAt", desc := "(II)I" } : Jvm.MethodName) prog_1_method_26_code (3 : Nat) (Option.some Jvm.ClassFile.FieldType.int)).before args0 about1 = true := code_word (m := ⟨2, 25⟩) (meth := k2m25) (c := k2c25) (by decide +kernel) rfl rfl rfl (by decide +kernel)
set_option maxRecDepth 65536 in
theorem w_c15 : (Jvm.Cond.code ({ cls := "CausalStableOwnLaw", name := "countBefore", desc := "(LCausalStable;III)I" } : Jvm.MethodName) method_4_code (6 : Nat) (Option.some Jvm.ClassFile.FieldType.int)).before args0 about1 = true := code_word (m := ⟨1, 3⟩) (meth := k1m3) (c := k1c3) (by decide +kernel) rfl rfl rfl (by decide +kernel)
set_option maxRecDepth 65536 in
theorem w_c16 : (Jvm.Cond.code ({ cls := "CausalStable", name := "stamp", desc := "(III)I" } : Jvm.MethodName) prog_1_method_22_code (5 : Nat) (Option.some Jvm.ClassFile.FieldType.int)).before args0 about1 = true := code_word (m := ⟨2, 21⟩) (meth := k2m21) (c := k2c21) (by decide +kernel) rfl rfl rfl (by decide +kernel)
set_option maxRecDepth 65536 in
theorem w_c17 : (Jvm.Cond.code ({ cls := "CausalStable", name := "exists", desc := "(II)Z" } : Jvm.MethodName) prog_1_method_3_code (3 : Nat) (Option.some Jvm.ClassFile.FieldType.boolean)).before args0 about1 = true := code_word (m := ⟨2, 2⟩) (meth := k2m2) (c := k2c2) (by decide +kernel) rfl rfl rfl (by decide +kernel)
set_option maxRecDepth 65536 in
theorem w_c18 : (Jvm.Cond.code ({ cls := "CausalStable", name := "state", desc := "(III)I" } : Jvm.MethodName) prog_1_method_24_code (5 : Nat) (Option.some Jvm.ClassFile.FieldType.int)).before args0 about1 = true := code_word (m := ⟨2, 23⟩) (meth := k2m23) (c := k2c23) (by decide +kernel) rfl rfl rfl (by decide +kernel)
set_option maxRecDepth 65536 in
theorem w_c19 : (Jvm.Cond.code ({ cls := "CausalStable", name := "isCrashed", desc := "(I)Z" } : Jvm.MethodName) prog_1_method_28_code (2 : Nat) (Option.some Jvm.ClassFile.FieldType.boolean)).before args0 about1 = true := code_word (m := ⟨2, 27⟩) (meth := k2m27) (c := k2c27) (by decide +kernel) rfl rfl rfl (by decide +kernel)
set_option maxRecDepth 65536 in
theorem w_c20 : (Jvm.Cond.code ({ cls := "CausalStableOwnLaw", name := "has", desc := "(LCausalStable;III)Z" } : Jvm.MethodName) method_5_code (5 : Nat) (Option.some Jvm.ClassFile.FieldType.boolean)).before args0 about1 = true := code_word (m := ⟨1, 4⟩) (meth := k1m4) (c := k1c4) (by decide +kernel) rfl rfl rfl (by decide +kernel)
set_option maxRecDepth 65536 in
theorem w_c21 : (Jvm.Cond.code ({ cls := "CausalStable", name := "copies", desc := "(III)I" } : Jvm.MethodName) prog_1_method_23_code (5 : Nat) (Option.some Jvm.ClassFile.FieldType.int)).before args0 about1 = true := code_word (m := ⟨2, 22⟩) (meth := k2m22) (c := k2c22) (by decide +kernel) rfl rfl rfl (by decide +kernel)
set_option maxRecDepth 65536 in
theorem w_c22 : (Jvm.Cond.code ({ cls := "CausalStable", name := "copyIndex", desc := "(III)I" } : Jvm.MethodName) prog_1_method_6_code (4 : Nat) (Option.some Jvm.ClassFile.FieldType.int)).before args0 about1 = true := code_word (m := ⟨2, 5⟩) (meth := k2m5) (c := k2c5) (by decide +kernel) rfl rfl rfl (by decide +kernel)
set_option maxRecDepth 65536 in
theorem w_c23 : (Jvm.Cond.code ({ cls := "CausalStable", name := "receive", desc := "(III)I" } : Jvm.MethodName) prog_1_method_14_code (6 : Nat) (Option.some Jvm.ClassFile.FieldType.int)).before args0 about1 = true := code_word (m := ⟨2, 13⟩) (meth := k2m13) (c := k2c13) (by decide +kernel) rfl rfl rfl (by decide +kernel)
set_option maxRecDepth 65536 in
theorem w_c24 : (Jvm.Cond.code ({ cls := "CausalStable", name := "cascade", desc := "(I)I" } : Jvm.MethodName) prog_1_method_10_code (8 : Nat) (Option.some Jvm.ClassFile.FieldType.int)).before args0 about1 = true := code_word (m := ⟨2, 9⟩) (meth := k2m9) (c := k2c9) (by decide +kernel) rfl rfl rfl (by decide +kernel)
set_option maxRecDepth 65536 in
theorem w_c25 : (Jvm.Cond.code ({ cls := "CausalStable", name := "isDeliverable", desc := "(III)Z" } : Jvm.MethodName) prog_1_method_9_code (7 : Nat) (Option.some Jvm.ClassFile.FieldType.boolean)).before args0 about1 = true := code_word (m := ⟨2, 8⟩) (meth := k2m8) (c := k2c8) (by decide +kernel) rfl rfl rfl (by decide +kernel)
set_option maxRecDepth 65536 in
theorem w_c26 : (Jvm.Cond.code ({ cls := "CausalStable", name := "drop", desc := "(III)I" } : Jvm.MethodName) prog_1_method_16_code (5 : Nat) (Option.some Jvm.ClassFile.FieldType.int)).before args0 about1 = true := code_word (m := ⟨2, 15⟩) (meth := k2m15) (c := k2c15) (by decide +kernel) rfl rfl rfl (by decide +kernel)
set_option maxRecDepth 65536 in
theorem w_c27 : (Jvm.Cond.code ({ cls := "CausalStable", name := "gossip", desc := "(II)I" } : Jvm.MethodName) prog_1_method_18_code (7 : Nat) (Option.some Jvm.ClassFile.FieldType.int)).before args0 about1 = true := code_word (m := ⟨2, 17⟩) (meth := k2m17) (c := k2c17) (by decide +kernel) rfl rfl rfl (by decide +kernel)
set_option maxRecDepth 65536 in
theorem w_c28 : (Jvm.Cond.code ({ cls := "CausalStable", name := "duplicate", desc := "(III)I" } : Jvm.MethodName) prog_1_method_15_code (5 : Nat) (Option.some Jvm.ClassFile.FieldType.int)).before args0 about1 = true := code_word (m := ⟨2, 14⟩) (meth := k2m14) (c := k2c14) (by decide +kernel) rfl rfl rfl (by decide +kernel)
set_option maxRecDepth 65536 in
theorem w_c29 : (Jvm.Cond.code ({ cls := "CausalStable", name := "retransmit", desc := "(IIII)I" } : Jvm.MethodName) prog_1_method_17_code (7 : Nat) (Option.some Jvm.ClassFile.FieldType.int)).before args0 about1 = true := code_word (m := ⟨2, 16⟩) (meth := k2m16) (c := k2c16) (by decide +kernel) rfl rfl rfl (by decide +kernel)
set_option maxRecDepth 65536 in
theorem w_c30 : (Jvm.Cond.code ({ cls := "CausalStable", name := "prune", desc := "(I)I" } : Jvm.MethodName) prog_1_method_19_code (7 : Nat) (Option.some Jvm.ClassFile.FieldType.int)).before args0 about1 = true := code_word (m := ⟨2, 18⟩) (meth := k2m18) (c := k2c18) (by decide +kernel) rfl rfl rfl (by decide +kernel)
set_option maxRecDepth 65536 in
theorem w_c31 : (Jvm.Cond.code ({ cls := "CausalStable", name := "isStable", desc := "(III)Z" } : Jvm.MethodName) prog_1_method_11_code (6 : Nat) (Option.some Jvm.ClassFile.FieldType.boolean)).before args0 about1 = true := code_word (m := ⟨2, 10⟩) (meth := k2m10) (c := k2c10) (by decide +kernel) rfl rfl rfl (by decide +kernel)
set_option maxRecDepth 65536 in
theorem w_c32 : (Jvm.Cond.code ({ cls := "CausalStable", name := "crash", desc := "(I)I" } : Jvm.MethodName) prog_1_method_20_code (2 : Nat) (Option.some Jvm.ClassFile.FieldType.int)).before args0 about1 = true := code_word (m := ⟨2, 19⟩) (meth := k2m19) (c := k2c19) (by decide +kernel) rfl rfl rfl (by decide +kernel)
set_option maxRecDepth 65536 in
theorem w_c33 : (Jvm.Cond.code ({ cls := "CausalStable", name := "othersAllCrashed", desc := "(I)Z" } : Jvm.MethodName) prog_1_method_12_code (3 : Nat) (Option.some Jvm.ClassFile.FieldType.boolean)).before args0 about1 = true := code_word (m := ⟨2, 11⟩) (meth := k2m11) (c := k2c11) (by decide +kernel) rfl rfl rfl (by decide +kernel)
def codes1 : List Jvm.Cond := [Jvm.Cond.code x code maxLocals ret, Jvm.Cond.code ({ cls := "CausalStableOwnLaw", name := "cell", desc := "([II)I" } : Jvm.MethodName) method_2_code (2 : Nat) (Option.some Jvm.ClassFile.FieldType.int), Jvm.Cond.code ({ cls := "CausalStable", name := "<init>", desc := "(II)V" } : Jvm.MethodName) prog_1_method_1_code (5 : Nat) (Option.none : Option Jvm.ClassFile.FieldType), Jvm.Cond.code ({ cls := "java/lang/Object", name := "<init>", desc := "()V" } : Jvm.MethodName) object_method_1_code (1 : Nat) (Option.none : Option Jvm.ClassFile.FieldType), Jvm.Cond.code ({ cls := "CausalStableOwnLaw", name := "holds", desc := "(LCausalStable;I)Z" } : Jvm.MethodName) method_6_code (10 : Nat) (Option.some Jvm.ClassFile.FieldType.boolean), Jvm.Cond.code ({ cls := "CausalStable", name := "delivered", desc := "(II)I" } : Jvm.MethodName) prog_1_method_25_code (3 : Nat) (Option.some Jvm.ClassFile.FieldType.int), Jvm.Cond.code ({ cls := "CausalStable", name := "validProc", desc := "(I)Z" } : Jvm.MethodName) prog_1_method_2_code (2 : Nat) (Option.some Jvm.ClassFile.FieldType.boolean), Jvm.Cond.code ({ cls := "CausalStable", name := "sent", desc := "(I)I" } : Jvm.MethodName) prog_1_method_21_code (2 : Nat) (Option.some Jvm.ClassFile.FieldType.int), Jvm.Cond.code ({ cls := "CausalStable", name := "known", desc := "(III)I" } : Jvm.MethodName) prog_1_method_27_code (5 : Nat) (Option.some Jvm.ClassFile.FieldType.int), Jvm.Cond.code ({ cls := "CausalStable", name := "knownIndex", desc := "(III)I" } : Jvm.MethodName) prog_1_method_7_code (4 : Nat) (Option.some Jvm.ClassFile.FieldType.int), Jvm.Cond.code ({ cls := "CausalStable", name := "broadcast", desc := "(I)I" } : Jvm.MethodName) prog_1_method_13_code (5 : Nat) (Option.some Jvm.ClassFile.FieldType.int), Jvm.Cond.code ({ cls := "CausalStable", name := "msgIndex", desc := "(II)I" } : Jvm.MethodName) prog_1_method_4_code (3 : Nat) (Option.some Jvm.ClassFile.FieldType.int), Jvm.Cond.code ({ cls := "CausalStable", name := "deliverAt", desc := "(III)V" } : Jvm.MethodName) prog_1_method_8_code (7 : Nat) (Option.none : Option Jvm.ClassFile.FieldType), Jvm.Cond.code ({ cls := "CausalStable", name := "stateIndex", desc := "(III)I" } : Jvm.MethodName) prog_1_method_5_code (4 : Nat) (Option.some Jvm.ClassFile.FieldType.int), Jvm.Cond.code ({ cls := "CausalStable", name := "deliveredAt", desc := "(II)I" } : Jvm.MethodName) prog_1_method_26_code (3 : Nat) (Option.some Jvm.ClassFile.FieldType.int), Jvm.Cond.code ({ cls := "CausalStableOwnLaw", name := "countBefore", desc := "(LCausalStable;III)I" } : Jvm.MethodName) method_4_code (6 : Nat) (Option.some Jvm.ClassFile.FieldType.int), Jvm.Cond.code ({ cls := "CausalStable", name := "stamp", desc := "(III)I" } : Jvm.MethodName) prog_1_method_22_code (5 : Nat) (Option.some Jvm.ClassFile.FieldType.int), Jvm.Cond.code ({ cls := "CausalStable", name := "exists", desc := "(II)Z" } : Jvm.MethodName) prog_1_method_3_code (3 : Nat) (Option.some Jvm.ClassFile.FieldType.boolean), Jvm.Cond.code ({ cls := "CausalStable", name := "state", desc := "(III)I" } : Jvm.MethodName) prog_1_method_24_code (5 : Nat) (Option.some Jvm.ClassFile.FieldType.int), Jvm.Cond.code ({ cls := "CausalStable", name := "isCrashed", desc := "(I)Z" } : Jvm.MethodName) prog_1_method_28_code (2 : Nat) (Option.some Jvm.ClassFile.FieldType.boolean), Jvm.Cond.code ({ cls := "CausalStableOwnLaw", name := "has", desc := "(LCausalStable;III)Z" } : Jvm.MethodName) method_5_code (5 : Nat) (Option.some Jvm.ClassFile.FieldType.boolean), Jvm.Cond.code ({ cls := "CausalStable", name := "copies", desc := "(III)I" } : Jvm.MethodName) prog_1_method_23_code (5 : Nat) (Option.some Jvm.ClassFile.FieldType.int), Jvm.Cond.code ({ cls := "CausalStable", name := "copyIndex", desc := "(III)I" } : Jvm.MethodName) prog_1_method_6_code (4 : Nat) (Option.some Jvm.ClassFile.FieldType.int), Jvm.Cond.code ({ cls := "CausalStable", name := "receive", desc := "(III)I" } : Jvm.MethodName) prog_1_method_14_code (6 : Nat) (Option.some Jvm.ClassFile.FieldType.int), Jvm.Cond.code ({ cls := "CausalStable", name := "cascade", desc := "(I)I" } : Jvm.MethodName) prog_1_method_10_code (8 : Nat) (Option.some Jvm.ClassFile.FieldType.int), Jvm.Cond.code ({ cls := "CausalStable", name := "isDeliverable", desc := "(III)Z" } : Jvm.MethodName) prog_1_method_9_code (7 : Nat) (Option.some Jvm.ClassFile.FieldType.boolean), Jvm.Cond.code ({ cls := "CausalStable", name := "drop", desc := "(III)I" } : Jvm.MethodName) prog_1_method_16_code (5 : Nat) (Option.some Jvm.ClassFile.FieldType.int), Jvm.Cond.code ({ cls := "CausalStable", name := "gossip", desc := "(II)I" } : Jvm.MethodName) prog_1_method_18_code (7 : Nat) (Option.some Jvm.ClassFile.FieldType.int), Jvm.Cond.code ({ cls := "CausalStable", name := "duplicate", desc := "(III)I" } : Jvm.MethodName) prog_1_method_15_code (5 : Nat) (Option.some Jvm.ClassFile.FieldType.int), Jvm.Cond.code ({ cls := "CausalStable", name := "retransmit", desc := "(IIII)I" } : Jvm.MethodName) prog_1_method_17_code (7 : Nat) (Option.some Jvm.ClassFile.FieldType.int), Jvm.Cond.code ({ cls := "CausalStable", name := "prune", desc := "(I)I" } : Jvm.MethodName) prog_1_method_19_code (7 : Nat) (Option.some Jvm.ClassFile.FieldType.int), Jvm.Cond.code ({ cls := "CausalStable", name := "isStable", desc := "(III)Z" } : Jvm.MethodName) prog_1_method_11_code (6 : Nat) (Option.some Jvm.ClassFile.FieldType.boolean), Jvm.Cond.code ({ cls := "CausalStable", name := "crash", desc := "(I)I" } : Jvm.MethodName) prog_1_method_20_code (2 : Nat) (Option.some Jvm.ClassFile.FieldType.int), Jvm.Cond.code ({ cls := "CausalStable", name := "othersAllCrashed", desc := "(I)Z" } : Jvm.MethodName) prog_1_method_12_code (3 : Nat) (Option.some Jvm.ClassFile.FieldType.boolean)]
set_option maxRecDepth 65536 in
theorem codes_eq : words1.filter isCode = codes1 := rfl
theorem w_codes : ∀ c ∈ words1.filter isCode, c.before args0 about1 = true := by
  rw [codes_eq]
  intro c hc
  simp only [codes1, List.mem_cons, List.not_mem_nil, or_false] at hc
  rcases hc with rfl | rfl | rfl | rfl | rfl | rfl | rfl | rfl | rfl | rfl | rfl | rfl | rfl | rfl | rfl | rfl | rfl | rfl | rfl | rfl | rfl | rfl | rfl | rfl | rfl | rfl | rfl | rfl | rfl | rfl | rfl | rfl | rfl | rfl
  · exact w_c0
  · exact w_c1
  · exact w_c2
  · exact w_c3
  · exact w_c4
  · exact w_c5
  · exact w_c6
  · exact w_c7
  · exact w_c8
  · exact w_c9
  · exact w_c10
  · exact w_c11
  · exact w_c12
  · exact w_c13
  · exact w_c14
  · exact w_c15
  · exact w_c16
  · exact w_c17
  · exact w_c18
  · exact w_c19
  · exact w_c20
  · exact w_c21
  · exact w_c22
  · exact w_c23
  · exact w_c24
  · exact w_c25
  · exact w_c26
  · exact w_c27
  · exact w_c28
  · exact w_c29
  · exact w_c30
  · exact w_c31
  · exact w_c32
  · exact w_c33
set_option maxRecDepth 65536 in
theorem w_t1 : (words1.take 24).all (fun c => isCode c || c.before args0 about1) = true := by decide +kernel
set_option maxRecDepth 65536 in
theorem w_t2 : ((words1.drop 24).take 24).all (fun c => isCode c || c.before args0 about1) = true := by decide +kernel
set_option maxRecDepth 65536 in
theorem w_t3 : (((words1.drop 24).drop 24).take 24).all (fun c => isCode c || c.before args0 about1) = true := by decide +kernel
set_option maxRecDepth 65536 in
theorem w_t4 : ((((words1.drop 24).drop 24).drop 24).take 24).all (fun c => isCode c || c.before args0 about1) = true := by decide +kernel
set_option maxRecDepth 65536 in
theorem w_t5 : (((((words1.drop 24).drop 24).drop 24).drop 24).take 24).all (fun c => isCode c || c.before args0 about1) = true := by decide +kernel
set_option maxRecDepth 65536 in
theorem w_t6 : ((((((words1.drop 24).drop 24).drop 24).drop 24).drop 24).take 24).all (fun c => isCode c || c.before args0 about1) = true := by decide +kernel
set_option maxRecDepth 65536 in
theorem w_t7 : (((((((words1.drop 24).drop 24).drop 24).drop 24).drop 24).drop 24).take 24).all (fun c => isCode c || c.before args0 about1) = true := by decide +kernel
set_option maxRecDepth 65536 in
theorem w_t8 : (((((((words1.drop 24).drop 24).drop 24).drop 24).drop 24).drop 24).drop 24).all (fun c => isCode c || c.before args0 about1) = true := by decide +kernel
theorem w_tables : (allAtoms (Jvm.Cond.code x code maxLocals ret :: tables_1)).before args0 about1 = true := by
  rw [allAtoms_all]
  show words1.all (fun c => c.before args0 about1) = true
  refine all_split ?_ w_codes
  rw [← List.take_append_drop 24 words1, List.all_append, w_t1, ← List.take_append_drop 24 (words1.drop 24), List.all_append, w_t2, ← List.take_append_drop 24 ((words1.drop 24).drop 24), List.all_append, w_t3, ← List.take_append_drop 24 (((words1.drop 24).drop 24).drop 24), List.all_append, w_t4, ← List.take_append_drop 24 ((((words1.drop 24).drop 24).drop 24).drop 24), List.all_append, w_t5, ← List.take_append_drop 24 (((((words1.drop 24).drop 24).drop 24).drop 24).drop 24), List.all_append, w_t6, ← List.take_append_drop 24 ((((((words1.drop 24).drop 24).drop 24).drop 24).drop 24).drop 24), List.all_append, w_t7, w_t8]
  rfl
set_option maxRecDepth 65536 in
theorem w_rest : rest_1_c.before args0 about1 = true := by decide +kernel
set_option maxRecDepth 65536 in
theorem w_case : (Jvm.Cond.and given_1 narrow_1).before args0 about1 = true := by decide +kernel
theorem w_applies : (headSpec (Jvm.Cond.code x code maxLocals ret :: tables_1) room_1).applies x e0.platform about1 = true :=
  (Spec.applies_iff w_frames).mpr ⟨w_running, w_runnable, w_alone, w_named, w_hears, w_ripe, w_room, w_tables⟩
theorem atStart : AtStart classFile x code maxLocals ret World_1 tables_1 room_1 Calls_1 rest_1 Pre_1 launch0 p0 e0 about1 theMethod args0 below0 :=
  ⟨lists_1, trivial, launch0.admits_env _ _ _, launch0.least_env, fairChoices_fair.cas, fairChoices_fair.clock, w_frames, w_args, w_heap, w_applies, trivial, w_rest, w_case⟩
end start1
theorem witness_1 : WitnessClaimed_1 := ⟨start1.p0, start1.e0, start1.about1, start1.theMethod, start1.args0, start1.below0, start1.atStart⟩
end Jvm.Pilot.@@N@@
