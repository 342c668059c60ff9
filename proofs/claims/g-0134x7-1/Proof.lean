import JvmDerived
import JvmDerived.Pilot.@@N@@Statement
import JvmDerived.Pilot.@@N@@Code
set_option linter.unusedVariables false
set_option linter.unusedSimpArgs false
namespace Jvm.RoadKit
open Sem ClassFile Op Lib Jvm.Stand Jvm.Free Jvm.LawKit
section New
variable {p : Program} {l : Launch} {e : Env} {R : Room} {s : State} {m : MethodId} {args : Array Value} {below : List Frame} {meth : Method} {c : Code} {T : State} {locs : List Loc} {cells slots : Nat}
theorem retI (X : Stand p l e R s m args below meth c T locs cells slots) (hx : p.tables.exec = Jvm.exec) {pc : Nat} {Ls : Array Slot} {z : Int32} {rest : List Value} (hret : meth.sig.returnType = some .int) (hd : decode c.code pc = .ok (.ireturn, 1)) {fs : List Frame}
    (hl : ∀ (f : JFrame) (acts : List Action), f.method = m → f.locked = none → f.entered = [] → (doReturn e (T.setTop f) acts (some (.int z))).1 = T.setFrames fs) : Steps p.tables e below (T.setTop (mkF m pc Ls (.int z :: rest))) (T.setFrames fs) := by
  have hm' : T.vm.method? m = some meth := X.method'
  have hn : narrow .int (.int z) = .int z := rfl
  show Steps p.tables e below (T.setTop { method := m, pc := pc, locals := Ls, stack := _ :: rest, locked := none }) _
  jvm_step X.here [X.here.top, hx, hd, hm', hret, hn]
  first | (intro acts; rw [hl _ acts rfl rfl rfl]) | rw [hl _ _ rfl rfl rfl]
  exact Steps.refl _
end New
end Jvm.RoadKit
namespace Jvm.Pilot.@@N@@
open Jvm Jvm.ClassFile Sem Op Lib Jvm.Free Jvm.Stand Jvm.LawKit Jvm.RoadKit Bundle Jvm.Pilot.@@N@@.Jvm.D
/- records: scalars, int-like arrays, long arrays -/
abbrev Rec : Type := (Nat → Int32) × (Nat → Int32 → Int32) × (Nat → Int32 → Int64)
def zrec : Rec := (fun _ => 0, fun _ _ => 0, fun _ _ => 0)
def gI (ob : Rec) (k : Nat) : Int32 := ob.1 k
def gA (ob : Rec) (k : Nat) (i : Int32) : Int32 := ob.2.1 k i
def gJ (ob : Rec) (k : Nat) (i : Int32) : Int64 := ob.2.2 k i
def sI (ob : Rec) (k : Nat) (v : Int32) : Rec := (fun j => if j = k then v else ob.1 j, ob.2)
def sA (ob : Rec) (k : Nat) (i v : Int32) : Rec := (ob.1, fun j x => if j = k ∧ x = i then v else ob.2.1 j x, ob.2.2)
def sJ (ob : Rec) (k : Nat) (i : Int32) (v : Int64) : Rec := (ob.1, ob.2.1, fun j x => if j = k ∧ x = i then v else ob.2.2 j x)
def chk {γ : Type} (n i : Int32) (A : Option γ) : Option γ := if i < 0 then none else if i < n then A else none
def dvz {γ : Type} (y : Int32) (A : Option γ) : Option γ := if y = 0 then none else A
def bind2 {α β γ : Type} (o : Option (α × β)) (f : α → β → Option γ) : Option γ := o.bind fun q => f q.1 q.2
def bind3 {α β γ δ : Type} (o : Option (α × β × δ)) (f : α → β → δ → Option γ) : Option γ := o.bind fun q => f q.1 q.2.1 q.2.2
theorem ite_el {c : Prop} [Decidable c] {γ : Type} {A B : Option γ} {r : γ} {Q : Prop} (h : (if c then A else B) = some r) (t : c → A = some r → Q) (e : ¬ c → B = some r → Q) : Q := by
  by_cases hc : c
  · rw [if_pos hc] at h; exact t hc h
  · rw [if_neg hc] at h; exact e hc h
theorem bind_el {α γ : Type} {o : Option α} {f : α → Option γ} {r : γ} {Q : Prop} (h : o.bind f = some r) (k : ∀ x, o = some x → f x = some r → Q) : Q := by
  cases o with
  | none => cases h
  | some x => exact k x rfl h
theorem bind2_el {α β γ : Type} {o : Option (α × β)} {f : α → β → Option γ} {r : γ} {Q : Prop} (h : bind2 o f = some r) (k : ∀ x y, o = some (x, y) → f x y = some r → Q) : Q := by
  rcases o with _ | ⟨x, y⟩
  · cases h
  · exact k x y rfl h
theorem bind3_el {α β γ δ : Type} {o : Option (α × β × δ)} {f : α → β → δ → Option γ} {r : γ} {Q : Prop} (h : bind3 o f = some r) (k : ∀ x y z, o = some (x, y, z) → f x y z = some r → Q) : Q := by
  rcases o with _ | ⟨x, y, z⟩
  · cases h
  · exact k x y z rfl h
theorem chk_el {γ : Type} {n i : Int32} {A : Option γ} {r : γ} {Q : Prop} (h : chk n i A = some r) (k : (¬ i < 0 ∧ i < n) → A = some r → Q) : Q := by
  unfold chk at h
  by_cases h0 : i < 0
  · rw [if_pos h0] at h; cases h
  · rw [if_neg h0] at h
    by_cases h1 : i < n
    · rw [if_pos h1] at h; exact k ⟨h0, h1⟩ h
    · rw [if_neg h1] at h; cases h
theorem dvz_el {γ : Type} {y : Int32} {A : Option γ} {r : γ} {Q : Prop} (h : dvz y A = some r) (k : y ≠ 0 → A = some r → Q) : Q := by
  unfold dvz at h
  by_cases h0 : y = 0
  · rw [if_pos h0] at h; cases h
  · rw [if_neg h0] at h; exact k h0 h
def All {α : Type} (p : α → Prop) : List α → Prop
  | [] => True
  | x :: l => p x ∧ All p l
theorem All.mem {α : Type} {p : α → Prop} : ∀ {l : List α}, All p l → ∀ {x : α}, x ∈ l → p x
  | [], _, _, h => nomatch h
  | _ :: _, H, _, h => (List.mem_cons.mp h).elim (fun e => e ▸ H.1) (fun e => All.mem H.2 e)
def el (ty : FieldType) (ob : Rec) (k : Nat) (j : Int32) : Value := match ty with
  | .long => .long (ob.2.2 k j)
  | _ => .int (ob.2.1 k j)
def aD (ty : FieldType) : String := match ty with
  | .int => "[I"
  | .boolean => "[Z"
  | _ => "[J"
abbrev Cls : Type := String × List (String × String) × List (String × FieldType × Int32)
abbrev mem1 (k : Nat) {d : Jvm.Cond} (h : tables_1[k]? = some d) : d ∈ tables_1 := List.mem_of_getElem? h
abbrev sOk (C : String) (nd : String × String) : Prop := (Jvm.Cond.lays C C nd.1 nd.2 ∈ tables_1 ∨ Jvm.Cond.laysFinal C C nd.1 nd.2 ∈ tables_1) ∧ (nd.2 = "I" ∨ nd.2 = "Z")
abbrev aOk (C : String) (t : String × FieldType × Int32) : Prop := (Jvm.Cond.lays C C t.1 (aD t.2.1) ∈ tables_1 ∨ Jvm.Cond.laysFinal C C t.1 (aD t.2.1) ∈ tables_1) ∧ (t.2.1 = .int ∨ t.2.1 = .boolean ∨ t.2.1 = .long) ∧ ¬ t.2.2 < 0
def K : Cls := ("CausalStable", [("n", "I"), ("cap", "I")], [("sentCount", .int, 8), ("crashedFlag", .boolean, 8), ("del", .int, 64), ("msgState", .int, 512), ("stampArr", .int, 512), ("copyArr", .int, 512), ("known", .int, 512), ("list", .int, 512), ("listLen", .int, 8)])
theorem kS : All (sOk K.1) K.2.1 := ⟨⟨Or.inl (mem1 30 rfl), Or.inl rfl⟩, ⟨Or.inl (mem1 32 rfl), Or.inl rfl⟩, trivial⟩
theorem kA : All (aOk K.1) K.2.2 := ⟨⟨Or.inl (mem1 11 rfl), Or.inl rfl, by decide⟩, ⟨Or.inl (mem1 14 rfl), Or.inr (Or.inl rfl), by decide⟩, ⟨Or.inl (mem1 16 rfl), Or.inl rfl, by decide⟩, ⟨Or.inl (mem1 18 rfl), Or.inl rfl, by decide⟩, ⟨Or.inl (mem1 20 rfl), Or.inl rfl, by decide⟩, ⟨Or.inl (mem1 22 rfl), Or.inl rfl, by decide⟩, ⟨Or.inl (mem1 24 rfl), Or.inl rfl, by decide⟩, ⟨Or.inl (mem1 26 rfl), Or.inl rfl, by decide⟩, ⟨Or.inl (mem1 28 rfl), Or.inl rfl, by decide⟩, trivial⟩
abbrev kN : Nat := 11
theorem kI : Jvm.Cond.instantiable K.1 kN ∈ tables_1 := mem1 1 rfl
theorem kZ : Jvm.Cond.initialized K.1 ∈ tables_1 := mem1 2 rfl
theorem kNm : (K.2.1.map (·.1) ++ K.2.2.map (·.1)).Nodup := by decide +kernel
theorem nm_ss {k k' : Nat} {nd nd' : String × String} (h : K.2.1[k]? = some nd) (h' : K.2.1[k']? = some nd') (ne : k ≠ k') : nd.1 ≠ nd'.1 := fun e => by
  have l := (List.getElem?_eq_some_iff.mp h).1
  have l' := (List.getElem?_eq_some_iff.mp h').1
  refine ne ((List.getElem?_inj (l := K.2.1.map (·.1) ++ K.2.2.map (·.1)) (i := k) (j := k') (by simp; omega) kNm).mp ?_)
  rw [List.getElem?_append_left (by simpa using l), List.getElem?_append_left (by simpa using l'), List.getElem?_map, List.getElem?_map, h, h']
  simp [e]
theorem nm_aa {k k' : Nat} {t t' : String × FieldType × Int32} (h : K.2.2[k]? = some t) (h' : K.2.2[k']? = some t') (ne : k ≠ k') : t.1 ≠ t'.1 := fun e => by
  have l := (List.getElem?_eq_some_iff.mp h).1
  have l' := (List.getElem?_eq_some_iff.mp h').1
  have q := (List.getElem?_inj (l := K.2.1.map (·.1) ++ K.2.2.map (·.1)) (i := K.2.1.length + k) (j := K.2.1.length + k') (by simp; omega) kNm).mp (by
    rw [List.getElem?_append_right (by simp), List.getElem?_append_right (by simp)]
    simp [h, h', e])
  omega
theorem nm_sa {k k' : Nat} {nd : String × String} {t : String × FieldType × Int32} (h : K.2.1[k]? = some nd) (h' : K.2.2[k']? = some t) : nd.1 ≠ t.1 := fun e => by
  have l := (List.getElem?_eq_some_iff.mp h).1
  have l' := (List.getElem?_eq_some_iff.mp h').1
  have q := (List.getElem?_inj (l := K.2.1.map (·.1) ++ K.2.2.map (·.1)) (i := k) (j := K.2.1.length + k') (by simp; omega) kNm).mp (by
    rw [List.getElem?_append_left (by simpa using l), List.getElem?_append_right (by simp)]
    simp [h, h', e])
  omega
abbrev Ctx : Type := Launch × State × Nat × Array Value
def Ok (C : Ctx) : Prop := ∀ d ∈ tables_1, d.before C.2.2.2 C.2.1 = true
def ArrAt (Z : State) (h : Heap) (b : Nat) (ty : FieldType) (len : Int32) (v : Int32 → Value) : Prop := ∃ cl : Cell, Arr Z h b cl ty ∧ cl.slots.size = len.toNatClampNeg ∧ ∀ j : Int32, ¬ j < 0 → j < len → cl.slots[j.toNatClampNeg]? = some (v j)
def ObjAt (Z : State) (h : Heap) (a : Nat) (q : Nat) (ob : Rec) : Prop :=
  Exa Z h a K.1 ∧ (∀ k nd, K.2.1[k]? = some nd → Fld Z h a K.1 nd.1 nd.2 (.int (ob.1 k))) ∧
  (∀ k t, K.2.2[k]? = some t → k < q → Fld Z h a K.1 t.1 (aD t.2.1) (.ref (a + 1 + k)) ∧ ArrAt Z h (a + 1 + k) t.2.1 t.2.2 (el t.2.1 ob k)) ∧
  (∀ k t, K.2.2[k]? = some t → q ≤ k → Fld Z h a K.1 t.1 (aD t.2.1) .null)
abbrev AH : Type := Nat × List (Nat × Nat × Rec)
def Rep (Z : State) (n0 : Nat) (h : Heap) (G : AH) : Prop :=
  h.size = G.1 ∧ Old Z n0 h ∧ (∀ x ∈ G.2, n0 ≤ x.1 ∧ x.1 + x.2.1 < G.1 ∧ ObjAt Z h x.1 x.2.1 x.2.2) ∧ G.2.Pairwise (fun x y => x.1 + x.2.1 < y.1 ∨ y.1 + y.2.1 < x.1)
section Facts
variable {Z : State} {h h' : Heap} {a b : Nat} {q k n0 top : Nat} {ob ob' : Rec} {nd : String × String} {t : String × FieldType × Int32} {a0 : Array Value} {sl : Nat} {v : Value} {H : List (Nat × Nat × Rec)} {G : AH}
theorem fld_fr {C n d : String} (e : h'[a]? = h[a]?) (F : Fld Z h a C n d v) : Fld Z h' a C n d v := by
  obtain ⟨cell, cf, k, i, f, h1, r⟩ := F; exact ⟨cell, cf, k, i, f, e.trans h1, r⟩
theorem exa_fr {C : String} (e : h'[a]? = h[a]?) (F : Exa Z h a C) : Exa Z h' a C := by
  obtain ⟨cell, k, h1, r⟩ := F; exact ⟨cell, k, e.trans h1, r⟩
theorem arrAt_fr {ty : FieldType} {len : Int32} {w : Int32 → Value} (e : h'[a]? = h[a]?) (F : ArrAt Z h a ty len w) : ArrAt Z h' a ty len w := by
  obtain ⟨cl, A, r⟩ := F; exact ⟨cl, ⟨e.trans A.1, A.2⟩, r⟩
theorem ObjAt.frame (e : ∀ b, a ≤ b → b ≤ a + q → h'[b]? = h[b]?) (F : ObjAt Z h a q ob) : ObjAt Z h' a q ob := by
  have e0 := e a (Nat.le_refl _) (Nat.le_add_right _ _)
  refine ⟨exa_fr e0 F.1, fun k nd hk => fld_fr e0 (F.2.1 k nd hk), fun k t hk hq => ⟨fld_fr e0 (F.2.2.1 k t hk hq).1, arrAt_fr (e _ (by omega) (by omega)) (F.2.2.1 k t hk hq).2⟩, fun k t hk hq => fld_fr e0 (F.2.2.2 k t hk hq)⟩
theorem ObjAt.ext (E : Ext h h') (F : ObjAt Z h a q ob) : ObjAt Z h' a q ob := by
  refine ⟨F.1.ext E, fun k nd hk => (F.2.1 k nd hk).ext E, fun k t hk hq => ⟨(F.2.2.1 k t hk hq).1.ext E, ?_⟩, fun k t hk hq => (F.2.2.2 k t hk hq).ext E⟩
  obtain ⟨cl, A, r⟩ := (F.2.2.1 k t hk hq).2; exact ⟨cl, A.ext E, r⟩
theorem wr_ne (W : Wr h h' a sl v) (ne : b ≠ a) : h'[b]? = h[b]? := by
  obtain ⟨cell, -, -, -, rfl⟩ := W; exact Array.getElem?_setIfInBounds_ne (Ne.symm ne)
theorem laidS (hw : ∀ d ∈ tables_1, d.before a0 Z = true) (hk : K.2.1[k]? = some nd) : Laid Z a0 K.1 K.1 nd.1 nd.2 := ((All.mem kS (List.mem_of_getElem? hk)).1).imp (hw _) (hw _)
theorem laidA (hw : ∀ d ∈ tables_1, d.before a0 Z = true) (hk : K.2.2[k]? = some t) : Laid Z a0 K.1 K.1 t.1 (aD t.2.1) := ((All.mem kA (List.mem_of_getElem? hk)).1).imp (hw _) (hw _)
theorem pfS (hk : K.2.1[k]? = some nd) : ∃ ty, parseFieldDescriptor nd.2 = some ty := by
  rcases (All.mem kS (List.mem_of_getElem? hk)).2 with e | e <;> rw [e]
  · exact ⟨.int, by decide⟩
  · exact ⟨.boolean, by decide⟩
theorem pfA (hk : K.2.2[k]? = some t) : parseFieldDescriptor (aD t.2.1) = some (.array t.2.1) := by
  rcases (All.mem kA (List.mem_of_getElem? hk)).2.1 with e | e | e <;> rw [e] <;> decide
theorem ObjAt.putI {x : Int32} (hw : ∀ d ∈ tables_1, d.before a0 Z = true) (F : ObjAt Z h a q ob) (hk : K.2.1[k]? = some nd) (W : Wr h h' a (Jvm.RoadKit.slotOf Z K.1 nd.1 nd.2) (.int x)) : ObjAt Z h' a q (sI ob k x) := by
  obtain ⟨ty, hty⟩ := pfS hk
  refine ⟨F.1.wr W, fun k' nd' hk' => ?_, fun k' t hk' hq => ⟨(F.2.2.1 k' t hk' hq).1.other W (Or.inr (Jvm.RoadKit.slot_ne (laidA hw hk') (laidS hw hk) (Ne.symm (nm_sa hk hk')) (pfA hk') hty)), ?_⟩, fun k' t hk' hq => (F.2.2.2 k' t hk' hq).other W (Or.inr (Jvm.RoadKit.slot_ne (laidA hw hk') (laidS hw hk) (Ne.symm (nm_sa hk hk')) (pfA hk') hty))⟩
  · by_cases e : k' = k
    · subst e; cases hk.symm.trans hk'
      have := (F.2.1 k' nd hk).same W
      simpa [sI] using this
    · obtain ⟨ty', hty'⟩ := pfS hk'
      have := (F.2.1 k' nd' hk').other W (Or.inr (Jvm.RoadKit.slot_ne (laidS hw hk') (laidS hw hk) (nm_ss hk' hk e) hty' hty))
      simpa [sI, e] using this
  · have := arrAt_fr (wr_ne W (by omega)) (F.2.2.1 k' t hk' hq).2
    have e : el t.2.1 (sI ob k x) k' = el t.2.1 ob k' := by funext j; unfold el; split <;> rfl
    rw [e]; exact this
theorem ObjAt.putA (F : ObjAt Z h a q ob) (hk : K.2.2[k]? = some t) (hq : k < q) {x : Value} {j : Int32} (hj : ¬ j < 0 ∧ j < t.2.2) (W : Wr h h' (a + 1 + k) j.toNatClampNeg x)
    (e1 : el t.2.1 ob' k = fun i => if i = j then x else el t.2.1 ob k i) (e2 : ∀ k' t', k' ≠ k → el t' ob' k' = el t' ob k') (e3 : ob'.1 = ob.1) : ObjAt Z h' a q ob' := by
  have u : h'[a]? = h[a]? := wr_ne W (by omega)
  refine ⟨exa_fr u F.1, fun k' nd hk' => by rw [e3]; exact fld_fr u (F.2.1 k' nd hk'), fun k' t' hk' hq' => ⟨fld_fr u (F.2.2.1 k' t' hk' hq').1, ?_⟩, fun k' t' hk' hq' => fld_fr u (F.2.2.2 k' t' hk' hq')⟩
  by_cases e : k' = k
  · subst e; cases hk.symm.trans hk'
    obtain ⟨cl, A, S, V⟩ := (F.2.2.1 k' t hk hq).2
    have inb : ¬ (j < 0 ∨ cl.slots.size ≤ j.toNatClampNeg) := inb_of S hj
    refine ⟨_, A.same W, by rw [sz_set]; exact S, fun i h0 h1 => ?_⟩
    rw [e1]
    by_cases ei : i = j
    · simp only [ei, if_true]; exact get_hit inb rfl
    · simp only [ei, if_false]; rw [get_miss hj.1 h0 ei]; exact V i h0 h1
  · rw [e2 k' _ e]; exact arrAt_fr (wr_ne W (by omega)) (F.2.2.1 k' t' hk' hq').2
theorem el_sA {ty : FieldType} (ht : ty ≠ .long) (j x : Int32) : el ty (sA ob k j x) k = fun i => if i = j then .int x else el ty ob k i := by
  funext i; cases ty <;> first | exact absurd rfl ht | (simp only [el, sA, true_and]; split <;> rfl)
theorem el_sJ (j : Int32) (x : Int64) : el .long (sJ ob k j x) k = fun i => if i = j then .long x else el .long ob k i := by
  funext i; simp only [el, sJ, true_and]; split <;> rfl
theorem el_sA' (j x : Int32) (k' : Nat) (t' : FieldType) (ne : k' ≠ k) : el t' (sA ob k j x) k' = el t' ob k' := by
  funext i; cases t' <;> simp [el, sA, ne]
theorem el_sJ' (j : Int32) (x : Int64) (k' : Nat) (t' : FieldType) (ne : k' ≠ k) : el t' (sJ ob k j x) k' = el t' ob k' := by
  funext i; cases t' <;> simp [el, sJ, ne]
theorem Rep.upd (R : Rep Z n0 h (top, (a, q, ob) :: H)) (hs : h'.size = h.size) (hO : Old Z n0 h') (e : ∀ b, (b < a ∨ a + q < b) → h'[b]? = h[b]?) (F : ObjAt Z h' a q ob') : Rep Z n0 h' (top, (a, q, ob') :: H) := by
  obtain ⟨r1, r2, r3, r4⟩ := R
  refine ⟨hs.trans r1, hO, fun x hx => ?_, ?_⟩
  · rcases List.mem_cons.mp hx with rfl | hx
    · exact ⟨(r3 _ (List.mem_cons_self ..)).1, (r3 _ (List.mem_cons_self ..)).2.1, F⟩
    · obtain ⟨p1, p2, p3⟩ := r3 x (List.mem_cons_of_mem _ hx)
      refine ⟨p1, p2, p3.frame fun b h1 h2 => e b ?_⟩
      have := (List.pairwise_cons.mp r4).1 x hx
      simp only at this
      omega
  · have := List.pairwise_cons.mp r4
    exact List.pairwise_cons.mpr ⟨fun y hy => this.1 y hy, this.2⟩
theorem Rep.objs (R : Rep Z n0 h (top, (a, q, ob) :: H)) : n0 ≤ a ∧ a + q < top ∧ ObjAt Z h a q ob := R.2.2.1 _ (List.mem_cons_self ..)
theorem Rep.putI {x : Int32} (hw : ∀ d ∈ tables_1, d.before a0 Z = true) (R : Rep Z n0 h (top, (a, q, ob) :: H)) (hk : K.2.1[k]? = some nd) (W : Wr h h' a (Jvm.RoadKit.slotOf Z K.1 nd.1 nd.2) (.int x)) : Rep Z n0 h' (top, (a, q, sI ob k x) :: H) :=
  R.upd W.size (R.2.1.wr W R.objs.1) (fun b hb => wr_ne W (by omega)) (R.objs.2.2.putI hw hk W)
theorem Rep.putA {x j : Int32} (R : Rep Z n0 h (top, (a, q, ob) :: H)) (hk : K.2.2[k]? = some t) (hq : k < q) (ht : t.2.1 ≠ .long) (hj : ¬ j < 0 ∧ j < t.2.2) (W : Wr h h' (a + 1 + k) j.toNatClampNeg (.int x)) : Rep Z n0 h' (top, (a, q, sA ob k j x) :: H) :=
  R.upd W.size (R.2.1.wr W (by have := R.objs.1; omega)) (fun b hb => wr_ne W (by omega)) (R.objs.2.2.putA hk hq hj W (el_sA ht j x) (fun k' t' ne => el_sA' j x k' t' ne) rfl)
theorem Rep.putJ {j : Int32} {x : Int64} (R : Rep Z n0 h (top, (a, q, ob) :: H)) (hk : K.2.2[k]? = some t) (hq : k < q) (ht : t.2.1 = .long) (hj : ¬ j < 0 ∧ j < t.2.2) (W : Wr h h' (a + 1 + k) j.toNatClampNeg (.long x)) : Rep Z n0 h' (top, (a, q, sJ ob k j x) :: H) :=
  R.upd W.size (R.2.1.wr W (by have := R.objs.1; omega)) (fun b hb => wr_ne W (by omega)) (R.objs.2.2.putA hk hq hj W (by rw [ht]; exact el_sJ j x) (fun k' t' ne => el_sJ' j x k' t' ne) rfl)
theorem Rep.swap {x y : Nat × Nat × Rec} (R : Rep Z n0 h (top, x :: y :: H)) : Rep Z n0 h (top, y :: x :: H) := by
  obtain ⟨r1, r2, r3, r4⟩ := R
  refine ⟨r1, r2, fun z hz => r3 z ?_, ?_⟩
  · simp only [List.mem_cons] at hz ⊢
    rcases hz with e | e | e
    · exact Or.inr (Or.inl e)
    · exact Or.inl e
    · exact Or.inr (Or.inr e)
  · simp only [List.pairwise_cons, List.mem_cons] at r4 ⊢
    obtain ⟨p1, p2, p3⟩ := r4
    refine ⟨fun z hz => ?_, fun z hz => p1 z (Or.inr hz), p3⟩
    rcases hz with rfl | hz
    · exact (p1 _ (Or.inl rfl)).symm
    · exact p2 z hz
theorem ObjAt.addA (hw : ∀ d ∈ tables_1, d.before a0 Z = true) (F : ObjAt Z h a k ob) (hk : K.2.2[k]? = some t) (A : ArrAt Z h (a + 1 + k) t.2.1 t.2.2 (el t.2.1 ob k)) (W : Wr h h' a (Jvm.RoadKit.slotOf Z K.1 t.1 (aD t.2.1)) (.ref (a + 1 + k))) : ObjAt Z h' a (k + 1) ob := by
  refine ⟨F.1.wr W, fun k' nd hk' => ?_, fun k' t' hk' hq => ?_, fun k' t' hk' hq => ?_⟩
  · obtain ⟨ty', hty'⟩ := pfS hk'
    exact (F.2.1 k' nd hk').other W (Or.inr (Jvm.RoadKit.slot_ne (laidS hw hk') (laidA hw hk) (nm_sa hk' hk) hty' (pfA hk)))
  · by_cases e : k' = k
    · subst e
      have et : t = t' := Option.some.inj (hk.symm.trans hk')
      subst et
      exact ⟨(F.2.2.2 k' t hk (Nat.le_refl _)).same W, arrAt_fr (wr_ne W (by omega)) A⟩
    · obtain ⟨f1, f2⟩ := F.2.2.1 k' t' hk' (by omega)
      exact ⟨f1.other W (Or.inr (Jvm.RoadKit.slot_ne (laidA hw hk') (laidA hw hk) (nm_aa hk' hk e) (pfA hk') (pfA hk))), arrAt_fr (wr_ne W (by omega)) f2⟩
  · exact (F.2.2.2 k' t' hk' (by omega)).other W (Or.inr (Jvm.RoadKit.slot_ne (laidA hw hk') (laidA hw hk) (nm_aa hk' hk (by omega)) (pfA hk') (pfA hk)))
theorem Rep.addA {h1 h2 : Heap} (hw : ∀ d ∈ tables_1, d.before a0 Z = true) (R : Rep Z n0 h (top, (a, k, ob) :: H)) (E : Ext h h1) (s1 : h1.size = top + 1) (htop : top = a + 1 + k) (hk : K.2.2[k]? = some t) (A : ArrAt Z h1 top t.2.1 t.2.2 (el t.2.1 ob k)) (W : Wr h1 h2 a (Jvm.RoadKit.slotOf Z K.1 t.1 (aD t.2.1)) (.ref top)) : Rep Z n0 h2 (top + 1, (a, k + 1, ob) :: H) := by
  obtain ⟨q1, q2, q3⟩ := R.objs
  have hp := List.pairwise_cons.mp R.2.2.2
  have hO : ObjAt Z h2 a (k + 1) ob := by
    subst htop
    exact (q3.ext E).addA hw hk A W
  refine ⟨W.size.trans s1, (R.2.1.ext E).wr W q1, List.forall_mem_cons.mpr ⟨⟨q1, ?_, hO⟩, fun x hx => ?_⟩, List.pairwise_cons.mpr ⟨fun y hy => ?_, hp.2⟩⟩
  · show a + (k + 1) < top + 1; omega
  · obtain ⟨p1, p2, p3⟩ := R.2.2.1 x (List.mem_cons_of_mem _ hx)
    have u1 : a + k < x.1 ∨ x.1 + x.2.1 < a := hp.1 x hx
    have u2 : x.1 + x.2.1 < top := p2
    exact ⟨p1, Nat.lt_succ_of_lt u2, (p3.ext E).frame fun b h1 h2 => wr_ne W (by omega)⟩
  · have u1 : a + k < y.1 ∨ y.1 + y.2.1 < a := hp.1 y hy
    have u2 : y.1 + y.2.1 < top := (R.2.2.1 y (List.mem_cons_of_mem _ hy)).2.1
    show a + (k + 1) < y.1 ∨ y.1 + y.2.1 < a
    omega
theorem arr_new {cA : ClassId} {ty : FieldType} {len : Int32} (A : Arr Z h b (newA cA ty len) ty) (hts : ty = .int ∨ ty = .boolean ∨ ty = .long) (hz : (∀ i, ob.2.1 k i = 0) ∧ (∀ i, ob.2.2 k i = 0)) : ArrAt Z h b ty len (el ty ob k) := by
  refine ⟨_, A, sz_new _ _ _, fun i h0 h1 => ?_⟩
  have hi : ¬ (i < 0 ∨ len.toNatClampNeg ≤ i.toNatClampNeg) := by
    have e0 : (0 : Int32).toInt = 0 := rfl
    simp only [Int32.lt_iff_toInt_lt, Int32.toNatClampNeg] at *
    omega
  rw [get_new hi]
  rcases hts with rfl | rfl | rfl
  · show some (Value.int 0) = some (Value.int (ob.2.1 k i)); rw [hz.1]
  · show some (Value.int 0) = some (Value.int (ob.2.1 k i)); rw [hz.1]
  · show some (Value.long 0) = some (Value.long (ob.2.2 k i)); rw [hz.2]
theorem Rep.start (s : State) : Rep s s.heap.size s.heap (s.heap.size, []) := ⟨rfl, Old.start s, fun x hx => (by cases hx), List.Pairwise.nil⟩
end Facts
/- bodies, decode facts, patterns of local variables -/
abbrev Bdy : Type := MethodName × ByteArray × Nat × Option FieldType × Room
def DAt (M : Bdy) (pc : Nat) (i : Instr) (n q : Nat) : Prop := decode M.2.1 pc = .ok (i, n) ∧ q = pc + n
abbrev Pat : Type := List (Option Slot)
abbrev vi (x : Int32) : Option Slot := some (.val (.int x))
abbrev vl (x : Int64) : Option Slot := some (.val (.long x))
abbrev vr (a : Nat) : Option Slot := some (.val (.ref a))
abbrev v2 : Option Slot := some .second
abbrev vn : Option Slot := none
def pget : Pat → Nat → Option Slot
  | [], _ => none
  | x :: _, 0 => x
  | _ :: l, n + 1 => pget l n
theorem pget_eq : ∀ (P : Pat) (i : Nat), pget P i = (P[i]?).join
  | [], _ => by simp [pget]
  | x :: l, 0 => by simp [pget]
  | x :: l, n + 1 => by simp [pget, pget_eq l n]
def pput : Pat → Nat → Option Slot → Pat
  | [], _, _ => []
  | _ :: l, 0, y => y :: l
  | x :: l, n + 1, y => x :: pput l n y
theorem pget_pput : ∀ (P : Pat) (i j : Nat) (y : Option Slot) (s : Slot), pget (pput P i y) j = some s → (j = i ∧ y = some s) ∨ (j ≠ i ∧ pget P j = some s)
  | [], _, _, _, _, h => by simp [pput, pget] at h
  | x :: l, 0, 0, y, s, h => Or.inl ⟨rfl, h⟩
  | x :: l, 0, j + 1, y, s, h => Or.inr ⟨by omega, h⟩
  | x :: l, i + 1, 0, y, s, h => Or.inr ⟨by omega, h⟩
  | x :: l, i + 1, j + 1, y, s, h => by
    rcases pget_pput l i j y s h with ⟨e, r⟩ | ⟨e, r⟩
    · exact Or.inl ⟨by omega, r⟩
    · exact Or.inr ⟨by omega, r⟩
/-- a two-word value whose first word is at i is forgotten -/
def pk1 (P : Pat) (i : Nat) : Pat := match pget P i with
  | some (.val (.long _)) => pput P i none
  | some (.val (.double _)) => pput P i none
  | _ => P
def pk2 (P : Pat) (i : Nat) : Pat := match pget P i with
  | some .second => pput P i none
  | _ => P
def pkp (P : Pat) : Nat → Pat
  | 0 => P
  | i + 1 => pk1 P i
def ps1 (P : Pat) (i : Nat) (v : Value) : Pat := pput (pk2 (pkp P i) (i + 1)) i (some (.val v))
def ps2 (P : Pat) (i : Nat) (v : Value) : Pat := pput (pput (pk2 (pkp P i) (i + 2)) i (some (.val v))) (i + 1) (some .second)
def WFl (L : Array Slot) : Prop := (∀ i : Nat, L[i]? = some .second → ∃ (j : Nat) (v : Value), i = j + 1 ∧ L[j]? = some (.val v) ∧ v.category = 2) ∧ (∀ (i : Nat) (v : Value), L[i]? = some (.val v) → v.category = 2 → L[i + 1]? = some .second)
def Fits (P : Pat) (L : Array Slot) : Prop := (∀ i s, pget P i = some s → L[i]? = some s) ∧ WFl L
theorem pk1_sub {P : Pat} {i j : Nat} {s : Slot} (h : pget (pk1 P i) j = some s) : pget P j = some s ∧ (j = i → ∀ w : Value, s = .val w → w.category = 1) := by
  unfold pk1 at h
  split at h
  · rcases pget_pput _ _ _ _ _ h with ⟨-, e⟩ | ⟨e, r⟩
    · cases e
    · exact ⟨r, fun q => absurd q e⟩
  · rcases pget_pput _ _ _ _ _ h with ⟨-, e⟩ | ⟨e, r⟩
    · cases e
    · exact ⟨r, fun q => absurd q e⟩
  · rename_i h1 h2
    refine ⟨h, fun q w e => ?_⟩
    subst q e
    cases w <;> first | rfl | exact absurd h (h1 _) | exact absurd h (h2 _)
theorem pk2_sub {P : Pat} {i j : Nat} {s : Slot} (h : pget (pk2 P i) j = some s) : pget P j = some s ∧ (j = i → s ≠ .second) := by
  unfold pk2 at h
  split at h
  · rcases pget_pput _ _ _ _ _ h with ⟨-, e⟩ | ⟨e, r⟩
    · cases e
    · exact ⟨r, fun q => absurd q e⟩
  · rename_i h1
    refine ⟨h, fun q e => ?_⟩
    subst q e; exact h1 h
theorem pkp_sub {P : Pat} {i j : Nat} {s : Slot} (h : pget (pkp P i) j = some s) : pget P j = some s ∧ (j + 1 = i → ∀ w : Value, s = .val w → w.category = 1) := by
  cases i with
  | zero => exact ⟨h, fun q => by omega⟩
  | succ i => obtain ⟨h1, h2⟩ := pk1_sub (show pget (pk1 P i) j = some s from h); exact ⟨h1, fun q => h2 (by omega)⟩
theorem setAt_eq {L : Array Slot} {i : Nat} {x : Slot} (hi : i < L.size) : Jvm.setAt L i x = some (L.setIfInBounds i x) := by simp [Jvm.setAt, hi]
theorem sl_second {L : Array Slot} {i : Nat} {v : Value} (ho : L[i]? = some .second) : storeLocals L i v = (Jvm.setAt L (i - 1) .unset).bind fun l => storeSelf l i v := by
  unfold storeLocals; rw [ho]; rfl
theorem sl_unset {L : Array Slot} {i : Nat} {v : Value} (ho : L[i]? = some .unset) : storeLocals L i v = storeSelf L i v := by
  unfold storeLocals; rw [ho]; rfl
theorem sl_val {L : Array Slot} {i : Nat} {v o : Value} (ho : L[i]? = some (.val o)) : storeLocals L i v = if o.category = 2 then (Jvm.setAt L (i + 1) .unset).bind fun l => storeSelf l i v else storeSelf L i v := by
  unfold storeLocals; rw [ho]; rfl
theorem ss_one {L : Array Slot} {i : Nat} {v : Value} (hi : i < L.size) (hv : ¬ v.category = 2) : storeSelf L i v = some (L.setIfInBounds i (.val v)) := by
  unfold storeSelf; rw [setAt_eq hi]; simp [hv]
theorem ss_two {L : Array Slot} {i : Nat} {v : Value} {o : Slot} (hi : i < L.size) (hv : v.category = 2) (ho : L[i + 1]? = some o) : storeSelf L i v = (match o with
    | .val old => if old.category = 2 then (Jvm.setAt (L.setIfInBounds i (.val v)) (i + 2) .unset).bind fun l => Jvm.setAt l (i + 1) .second else Jvm.setAt (L.setIfInBounds i (.val v)) (i + 1) .second
    | _ => Jvm.setAt (L.setIfInBounds i (.val v)) (i + 1) .second) := by
  have e : (L.setIfInBounds i (.val v))[i + 1]? = some o := by rw [Array.getElem?_setIfInBounds_ne (by omega)]; exact ho
  unfold storeSelf; rw [setAt_eq hi]
  show (if v.category = 2 then _ else _) = _
  rw [if_pos hv, e]
  cases o <;> rfl
theorem cat12 (v : Value) : v.category = 1 ∨ v.category = 2 := by cases v <;> first | exact Or.inl rfl | exact Or.inr rfl
/-- a one-word store: what stands elsewhere stays, but for the halves of a two-word value that it breaks -/
theorem store_one {L : Array Slot} {i : Nat} {v : Value} (hW : WFl L) (hi : i < L.size) (hv : v.category = 1) :
    ∃ L', storeLocals L i v = some L' ∧ L'.size = L.size ∧ WFl L' ∧ L'[i]? = some (.val v) ∧ ∀ j, j ≠ i → L'[j]? = L[j]? ∨ (j + 1 = i ∧ L[i]? = some .second) ∨ (j = i + 1 ∧ L[j]? = some .second) := by
  have hv2 : ¬ v.category = 2 := by omega
  cases ho : L[i]? with
  | none => rw [Array.getElem?_eq_none_iff] at ho; omega
  | some o =>
    cases o with
    | unset =>
      refine ⟨L.setIfInBounds i (.val v), ?_, by simp, ?_, by simp [hi], fun j hj => Or.inl (Array.getElem?_setIfInBounds_ne (Ne.symm hj))⟩
      · rw [sl_unset ho, ss_one hi hv2]
      · refine ⟨fun j hj => ?_, fun j w hj hw => ?_⟩
        · by_cases e : j = i
          · subst e; simp [hi] at hj
          · rw [Array.getElem?_setIfInBounds_ne (Ne.symm e)] at hj
            obtain ⟨j', w, e1, e2, e3⟩ := hW.1 j hj
            refine ⟨j', w, e1, ?_, e3⟩
            rw [Array.getElem?_setIfInBounds_ne]; exact e2
            intro q; subst q; rw [ho] at e2; cases e2
        · by_cases e : j = i
          · subst e; simp [hi] at hj; subst hj; omega
          · rw [Array.getElem?_setIfInBounds_ne (Ne.symm e)] at hj
            have := hW.2 j w hj hw
            rw [Array.getElem?_setIfInBounds_ne]; exact this
            intro q; subst q; rw [ho] at this; cases this
    | second =>
      obtain ⟨j0, w0, rfl, f2, f3⟩ := hW.1 i ho
      have hj0 : j0 < L.size := by omega
      refine ⟨(L.setIfInBounds j0 .unset).setIfInBounds (j0 + 1) (.val v), ?_, by simp, ?_, by simp [hi], fun j hj => ?_⟩
      · rw [sl_second ho, show j0 + 1 - 1 = j0 from rfl, setAt_eq hj0]; exact ss_one (by simpa using hi) hv2
      · refine ⟨fun j hj => ?_, fun j w hj hw => ?_⟩
        · by_cases e : j = j0 + 1
          · subst e; simp [hi] at hj
          · rw [Array.getElem?_setIfInBounds_ne (Ne.symm e)] at hj
            by_cases e' : j = j0
            · subst e'; simp [hj0] at hj
            · rw [Array.getElem?_setIfInBounds_ne (Ne.symm e')] at hj
              obtain ⟨j', w, e1, e2, e3⟩ := hW.1 j hj
              refine ⟨j', w, e1, ?_, e3⟩
              rw [Array.getElem?_setIfInBounds_ne, Array.getElem?_setIfInBounds_ne]
              · exact e2
              · intro q; subst q; omega
              · intro q; subst q; rw [ho] at e2; cases e2
        · by_cases e : j = j0 + 1
          · subst e; simp [hi] at hj; subst hj; omega
          · rw [Array.getElem?_setIfInBounds_ne (Ne.symm e)] at hj
            by_cases e' : j = j0
            · subst e'; simp [hj0] at hj
            · rw [Array.getElem?_setIfInBounds_ne (Ne.symm e')] at hj
              have := hW.2 j w hj hw
              rw [Array.getElem?_setIfInBounds_ne, Array.getElem?_setIfInBounds_ne]
              · exact this
              · intro q; subst q; rw [f2] at this; cases this
              · omega
      · by_cases e' : j = j0
        · exact Or.inr (Or.inl ⟨by omega, rfl⟩)
        · left; rw [Array.getElem?_setIfInBounds_ne (Ne.symm hj), Array.getElem?_setIfInBounds_ne (Ne.symm e')]
    | val old =>
      by_cases hc : old.category = 2
      · have f2 := hW.2 i old ho hc
        have hi1 : i + 1 < L.size := (Array.getElem?_eq_some_iff.mp f2).1
        refine ⟨(L.setIfInBounds (i + 1) .unset).setIfInBounds i (.val v), ?_, by simp, ?_, by simp [hi], fun j hj => ?_⟩
        · rw [sl_val ho, if_pos hc, setAt_eq hi1]; exact ss_one (by simpa using hi) hv2
        · refine ⟨fun j hj => ?_, fun j w hj hw => ?_⟩
          · by_cases e : j = i
            · subst e; simp [hi] at hj
            · rw [Array.getElem?_setIfInBounds_ne (Ne.symm e)] at hj
              by_cases e' : j = i + 1
              · subst e'; simp [hi1] at hj
              · rw [Array.getElem?_setIfInBounds_ne (Ne.symm e')] at hj
                obtain ⟨j', w, e1, e2, e3⟩ := hW.1 j hj
                refine ⟨j', w, e1, ?_, e3⟩
                rw [Array.getElem?_setIfInBounds_ne, Array.getElem?_setIfInBounds_ne]
                · exact e2
                · intro q; subst q; rw [f2] at e2; cases e2
                · omega
          · by_cases e : j = i
            · subst e; simp [hi] at hj; subst hj; omega
            · rw [Array.getElem?_setIfInBounds_ne (Ne.symm e)] at hj
              by_cases e' : j = i + 1
              · subst e'; simp [hi1] at hj
              · rw [Array.getElem?_setIfInBounds_ne (Ne.symm e')] at hj
                have := hW.2 j w hj hw
                rw [Array.getElem?_setIfInBounds_ne, Array.getElem?_setIfInBounds_ne]
                · exact this
                · omega
                · intro q; subst q; rw [ho] at this; cases this
        · by_cases e' : j = i + 1
          · subst e'; exact Or.inr (Or.inr ⟨rfl, f2⟩)
          · left; rw [Array.getElem?_setIfInBounds_ne (Ne.symm hj), Array.getElem?_setIfInBounds_ne (Ne.symm e')]
      · refine ⟨L.setIfInBounds i (.val v), ?_, by simp, ?_, by simp [hi], fun j hj => Or.inl (Array.getElem?_setIfInBounds_ne (Ne.symm hj))⟩
        · rw [sl_val ho, if_neg hc, ss_one hi hv2]
        · refine ⟨fun j hj => ?_, fun j w hj hw => ?_⟩
          · by_cases e : j = i
            · subst e; simp [hi] at hj
            · rw [Array.getElem?_setIfInBounds_ne (Ne.symm e)] at hj
              obtain ⟨j', w, e1, e2, e3⟩ := hW.1 j hj
              refine ⟨j', w, e1, ?_, e3⟩
              rw [Array.getElem?_setIfInBounds_ne]; exact e2
              intro q; subst q; rw [ho] at e2; cases e2; omega
          · by_cases e : j = i
            · subst e; simp [hi] at hj; subst hj; omega
            · rw [Array.getElem?_setIfInBounds_ne (Ne.symm e)] at hj
              have := hW.2 j w hj hw
              rw [Array.getElem?_setIfInBounds_ne]; exact this
              intro q; subst q; rw [ho] at this; cases this
theorem Fits.store1 {P : Pat} {L : Array Slot} {i : Nat} {v : Value} (h : Fits P L) (hi : i < L.size) (hv : v.category = 1) :
    ∃ L', storeLocals L i v = some L' ∧ L'.size = L.size ∧ Fits (ps1 P i v) L' := by
  obtain ⟨L', e1, e2, e3, e4, e5⟩ := store_one h.2 hi hv
  refine ⟨L', e1, e2, fun j s hj => ?_, e3⟩
  rcases pget_pput _ _ _ _ _ hj with ⟨rfl, q⟩ | ⟨ne, q⟩
  · rw [e4]; exact q
  · obtain ⟨q1, q2⟩ := pk2_sub q
    obtain ⟨q3, q4⟩ := pkp_sub q1
    have hL := h.1 j s q3
    rcases e5 j ne with r | ⟨r1, r2⟩ | ⟨r1, r2⟩
    · rw [r]; exact hL
    · obtain ⟨j', w, z1, z2, z3⟩ := h.2.1 i r2
      have : j' = j := by omega
      subst this
      rw [hL] at z2; cases z2
      have := q4 r1 w rfl; omega
    · rw [hL] at r2; cases r2
      exact absurd rfl (q2 r1)
theorem st_ph1 {L : Array Slot} {i : Nat} {v : Value} (hW : WFl L) (hi : i + 1 < L.size) :
    ∃ A : Array Slot, storeLocals L i v = storeSelf A i v ∧ A.size = L.size ∧ (∀ j, j ≠ i → j ≠ i + 1 → A[j]? = L[j]? ∨ (j + 1 = i ∧ L[i]? = some .second ∧ A[j]? = some .unset)) ∧ (A[i + 1]? = L[i + 1]? ∨ (A[i + 1]? = some .unset ∧ L[i + 1]? = some .second)) ∧ (L[i]? = some .second → ∀ j, j + 1 = i → A[j]? = some .unset) := by
  have hi0 : i < L.size := by omega
  cases ho : L[i]? with
  | none => rw [Array.getElem?_eq_none_iff] at ho; omega
  | some o =>
    cases o with
    | unset => exact ⟨L, sl_unset ho, rfl, fun j _ _ => Or.inl rfl, Or.inl rfl, fun q => by cases q⟩
    | second =>
      obtain ⟨j0, w0, rfl, f2, f3⟩ := hW.1 i ho
      have hj0 : j0 < L.size := by omega
      refine ⟨L.setIfInBounds j0 .unset, by rw [sl_second ho, show j0 + 1 - 1 = j0 from rfl, setAt_eq hj0]; rfl, by simp, fun j h1 h2 => ?_, Or.inl (Array.getElem?_setIfInBounds_ne (by omega)), fun _ j hj => ?_⟩
      · by_cases e : j = j0
        · subst e; exact Or.inr ⟨rfl, rfl, by simp [hj0]⟩
        · exact Or.inl (Array.getElem?_setIfInBounds_ne (Ne.symm e))
      · have : j = j0 := by omega
        subst this; simp [hj0]
    | val old =>
      by_cases hc : old.category = 2
      · refine ⟨L.setIfInBounds (i + 1) .unset, by rw [sl_val ho, if_pos hc, setAt_eq hi]; rfl, by simp, fun j h1 h2 => Or.inl (Array.getElem?_setIfInBounds_ne (Ne.symm h2)), Or.inr ⟨by simp [hi], hW.2 i old ho hc⟩, fun q => by cases q⟩
      · exact ⟨L, by rw [sl_val ho, if_neg hc], rfl, fun j _ _ => Or.inl rfl, Or.inl rfl, fun q => by cases q⟩
theorem st_ph2 {A : Array Slot} {i : Nat} {v : Value} (hi : i + 1 < A.size) (hv : v.category = 2) (hn : ∀ w : Value, A[i + 1]? = some (.val w) → w.category = 2 → i + 2 < A.size) :
    ∃ L', storeSelf A i v = some L' ∧ L'.size = A.size ∧ L'[i]? = some (.val v) ∧ L'[i + 1]? = some .second ∧ (∀ j, j ≠ i → j ≠ i + 1 → L'[j]? = A[j]? ∨ (j = i + 2 ∧ L'[j]? = some .unset ∧ ∃ w : Value, A[i + 1]? = some (.val w) ∧ w.category = 2)) ∧ ((∃ w : Value, A[i + 1]? = some (.val w) ∧ w.category = 2) → L'[i + 2]? = some .unset) := by
  have hi0 : i < A.size := by omega
  have eB : (A.setIfInBounds i (.val v))[i + 1]? = A[i + 1]? := Array.getElem?_setIfInBounds_ne (by omega)
  have plain : (∀ w : Value, A[i + 1]? = some (.val w) → w.category ≠ 2) → storeSelf A i v = some ((A.setIfInBounds i (.val v)).setIfInBounds (i + 1) .second) := fun hq => by
    cases ho : A[i + 1]? with
    | none => rw [Array.getElem?_eq_none_iff] at ho; omega
    | some o => cases o with
      | unset => rw [ss_two hi0 hv ho]; exact setAt_eq (by simpa using hi)
      | second => rw [ss_two hi0 hv ho]; exact setAt_eq (by simpa using hi)
      | val w => have := hq w ho; rw [ss_two hi0 hv ho]; simp only [if_neg this]; exact setAt_eq (by simpa using hi)
  by_cases hw : ∃ w : Value, A[i + 1]? = some (.val w) ∧ w.category = 2
  · obtain ⟨w, h1, h2⟩ := hw
    have h3 := hn w h1 h2
    refine ⟨((A.setIfInBounds i (.val v)).setIfInBounds (i + 2) .unset).setIfInBounds (i + 1) .second, by rw [ss_two hi0 hv h1]; simp only [if_pos h2]; rw [setAt_eq (by simpa using h3)]; exact setAt_eq (by simpa using hi), by simp, ?_, by simp [hi], fun j a b => ?_, fun _ => ?_⟩
    · rw [Array.getElem?_setIfInBounds_ne (by omega), Array.getElem?_setIfInBounds_ne (by omega)]; simp [hi0]
    · rw [Array.getElem?_setIfInBounds_ne (by omega)]
      by_cases e : j = i + 2
      · subst e; exact Or.inr ⟨rfl, by simp [h3], w, h1, h2⟩
      · left; rw [Array.getElem?_setIfInBounds_ne (by omega), Array.getElem?_setIfInBounds_ne (by omega)]
    · rw [Array.getElem?_setIfInBounds_ne (by omega)]; simp [h3]
  · refine ⟨_, plain fun w h1 h2 => hw ⟨w, h1, h2⟩, by simp, ?_, by simp [hi], fun j a b => Or.inl ?_, fun q => absurd q hw⟩
    · rw [Array.getElem?_setIfInBounds_ne (by omega)]; simp [hi0]
    · rw [Array.getElem?_setIfInBounds_ne (by omega), Array.getElem?_setIfInBounds_ne (by omega)]
theorem store_two {L : Array Slot} {i : Nat} {v : Value} (hW : WFl L) (hi : i + 1 < L.size) (hv : v.category = 2) :
    ∃ L', storeLocals L i v = some L' ∧ L'.size = L.size ∧ WFl L' ∧ L'[i]? = some (.val v) ∧ L'[i + 1]? = some .second ∧ ∀ j, j ≠ i → j ≠ i + 1 → L'[j]? = L[j]? ∨ (j + 1 = i ∧ L[i]? = some .second) ∨ (j = i + 2 ∧ L[j]? = some .second) := by
  obtain ⟨A, a1, a2, a3, a4, a5⟩ := st_ph1 (v := v) hW hi
  have a6 : ∀ w : Value, A[i + 1]? = some (.val w) → w.category = 2 → L[i + 2]? = some .second := fun w h1 h2 => by
    rcases a4 with e | ⟨e, -⟩
    · rw [e] at h1; exact hW.2 _ _ h1 h2
    · rw [e] at h1; cases h1
  obtain ⟨L', b1, b2, b3, b4, b5, b6⟩ := st_ph2 (A := A) (i := i) (v := v) (by omega) hv (fun w h1 h2 => by have := (Array.getElem?_eq_some_iff.mp (a6 w h1 h2)).1; omega)
  have c : ∀ j, j ≠ i → j ≠ i + 1 → L'[j]? = L[j]? ∨ (j + 1 = i ∧ L[i]? = some .second ∧ L'[j]? = some .unset) ∨ (j = i + 2 ∧ L[j]? = some .second ∧ L'[j]? = some .unset) := fun j h1 h2 => by
    rcases b5 j h1 h2 with e | ⟨e1, e2, w, e3, e4⟩
    · rcases a3 j h1 h2 with r | ⟨r1, r2, r3⟩
      · exact Or.inl (e.trans r)
      · exact Or.inr (Or.inl ⟨r1, r2, e.trans r3⟩)
    · subst e1; exact Or.inr (Or.inr ⟨rfl, a6 w e3 e4, e2⟩)
  have cs : L[i]? = some .second → ∀ j, j + 1 = i → L'[j]? = some .unset := fun q j hj => by
    rcases b5 j (by omega) (by omega) with e | ⟨e1, -⟩
    · exact e.trans (a5 q j hj)
    · omega
  have c2 : L[i + 2]? = some .second → L'[i + 2]? = some .unset := fun q => by
    obtain ⟨j', w, z1, z2, z3⟩ := hW.1 _ q
    have : j' = i + 1 := by omega
    subst this
    rcases a4 with e | ⟨-, e⟩
    · exact b6 ⟨w, e.trans z2, z3⟩
    · rw [e] at z2; cases z2
  refine ⟨L', a1.trans b1, b2.trans a2, ⟨fun j hj => ?_, fun j w hj hw => ?_⟩, b3, b4, fun j h1 h2 => ?_⟩
  · by_cases e0 : j = i
    · subst e0; rw [b3] at hj; cases hj
    by_cases e1 : j = i + 1
    · exact ⟨i, v, e1, b3, hv⟩
    rcases c j e0 e1 with r | ⟨-, -, r⟩ | ⟨-, -, r⟩
    · rw [r] at hj
      obtain ⟨j', w, z1, z2, z3⟩ := hW.1 j hj
      refine ⟨j', w, z1, ?_, z3⟩
      have n0 : j' ≠ i := by omega
      by_cases n1 : j' = i + 1
      · have : j = i + 2 := by omega
        subst this
        rw [c2 hj] at r; rw [hj] at r; cases r
      rcases c j' n0 n1 with u | ⟨u, -, -⟩ | ⟨-, u, -⟩
      · exact u.trans z2
      · omega
      · rw [z2] at u; cases u
    · rw [r] at hj; cases hj
    · rw [r] at hj; cases hj
  · by_cases e0 : j = i
    · subst e0; exact b4
    by_cases e1 : j = i + 1
    · subst e1; rw [b4] at hj; cases hj
    rcases c j e0 e1 with r | ⟨-, -, r⟩ | ⟨-, -, r⟩
    · have hj' := hj
      rw [r] at hj
      have z := hW.2 j w hj hw
      by_cases n0 : j + 1 = i
      · subst n0; rw [cs z j rfl] at hj'; cases hj'
      by_cases n1 : j + 1 = i + 1
      · omega
      rcases c (j + 1) n0 n1 with u | ⟨u1, u2, -⟩ | ⟨u, -, -⟩
      · exact u.trans z
      · obtain ⟨j', w', y1, y2, y3⟩ := hW.1 i u2
        have : j' = j + 1 := by omega
        subst this; rw [z] at y2; cases y2
      · omega
    · rw [r] at hj; cases hj
    · rw [r] at hj; cases hj
  · rcases c j h1 h2 with r | ⟨r1, r2, -⟩ | ⟨r1, r2, -⟩
    · exact Or.inl r
    · exact Or.inr (Or.inl ⟨r1, r2⟩)
    · exact Or.inr (Or.inr ⟨r1, r2⟩)
theorem Fits.store2 {P : Pat} {L : Array Slot} {i : Nat} {v : Value} (h : Fits P L) (hi : i + 1 < L.size) (hv : v.category = 2) :
    ∃ L', storeLocals L i v = some L' ∧ L'.size = L.size ∧ Fits (ps2 P i v) L' := by
  obtain ⟨L', e1, e2, e3, e4, e4', e5⟩ := store_two h.2 hi hv
  refine ⟨L', e1, e2, fun j s hj => ?_, e3⟩
  rcases pget_pput _ _ _ _ _ hj with ⟨rfl, q⟩ | ⟨ne, q⟩
  · rw [e4']; exact q
  rcases pget_pput _ _ _ _ _ q with ⟨rfl, q'⟩ | ⟨ne', q'⟩
  · rw [e4]; exact q'
  obtain ⟨q1, q2⟩ := pk2_sub q'
  obtain ⟨q3, q4⟩ := pkp_sub q1
  have hL := h.1 j s q3
  rcases e5 j ne' ne with r | ⟨r1, r2⟩ | ⟨r1, r2⟩
  · rw [r]; exact hL
  · obtain ⟨j', w, z1, z2, z3⟩ := h.2.1 i r2
    have : j' = j := by omega
    subst this
    rw [hL] at z2; cases z2
    have := q4 r1 w rfl; omega
  · rw [hL] at r2; cases r2
    exact absurd rfl (q2 r1)
/- what a body does from a place on -/
def Runs (C : Ctx) (M : Bdy) (k n pc : Nat) (P : Pat) (S : List Value) (G : AH) (Q : Option Value → AH → Prop) : Prop :=
  Ok C → ∀ (p : Program) (e : Env) (s : State) (m : MethodId) (args : Array Value) (below : List Frame) (meth : Method) (c : Code) (T : State) (locs : List Loc) (L : Array Slot),
    p.tables.exec = Jvm.exec → c.code = M.2.1 → c.maxLocals = M.2.2.1 → meth.sig.returnType = M.2.2.2.1 → meth.name = M.1.name → s.vm.findClass M.1.cls = some m.cls → C.2.1.Warmed39 s.vm →
    Fits P L → L.size = M.2.2.1 → Stand p C.1 e M.2.2.2.2 s m args below meth c T locs k n → Rep C.2.1 C.2.2.1 T.heap G → Fr C.2.2.1 locs →
    ∃ (T' : State) (locs' : List Loc) (k' n' : Nat) (r : Option Value) (G' : AH), Stand p C.1 e M.2.2.2.2 s m args below meth c T' locs' k' n' ∧ k' ≤ M.2.2.2.2.cells ∧ n' ≤ M.2.2.2.2.slots ∧ Rep C.2.1 C.2.2.1 T'.heap G' ∧ Fr C.2.2.1 locs' ∧ Q r G' ∧
      (M.2.2.2.1 = none → r = none) ∧
      ∀ fs : List Frame, (∀ (f : JFrame) (acts : List Action), f.method = m → f.locked = none → f.entered = [] → (doReturn e (T'.setTop f) acts r).1 = T'.setFrames fs) → Steps p.tables e below (T.setTop (mkF m pc L S)) (T'.setFrames fs)
section Rules
variable {C : Ctx} {M : Bdy} {k n pc q : Nat} {P P' : Pat} {S S' : List Value} {G : AH} {Q : Option Value → AH → Prop}
/-- a step that leaves the heap alone -/
theorem Runs.pure {i : Instr} {len : Nat} (d : DAt M pc i len q) {pc' : Nat}
    (st : ∀ (p : Program) (e : Env) (s : State) (m : MethodId) (args : Array Value) (below : List Frame) (meth : Method) (c : Code) (T : State) (locs : List Loc) (L : Array Slot), Ok C → p.tables.exec = Jvm.exec → s.vm.findClass M.1.cls = some m.cls → C.2.1.Warmed39 s.vm → decode c.code pc = .ok (i, len) → Fits P L → L.size = M.2.2.1 → Rep C.2.1 C.2.2.1 T.heap G →
      Stand p C.1 e M.2.2.2.2 s m args below meth c T locs k n → ∃ L', Fits P' L' ∧ L'.size = M.2.2.1 ∧ ∀ t, Steps p.tables e below (T.setTop (mkF m pc' L' S')) t → Steps p.tables e below (T.setTop (mkF m pc L S)) t)
    (h : Runs C M k n pc' P' S' G Q) : Runs C M k n pc P S G Q := by
  intro hw p e s m args below meth c T locs L hx hby hml hret hnm hown hZ hP hsz X hR hF
  obtain ⟨L', f1, f2, f3⟩ := st p e s m args below meth c T locs L hw hx hown hZ (hb hby d.1) hP hsz hR X
  obtain ⟨T', locs', k', n', r, G', g1, g2, g3, g4, g5, g6, g7, g8⟩ := h hw p e s m args below meth c T locs L' hx hby hml hret hnm hown hZ f1 f2 X hR hF
  exact ⟨T', locs', k', n', r, G', g1, g2, g3, g4, g5, g6, g7, fun fs hr => f3 _ (g8 fs hr)⟩
/-- a step that keeps the locals and what the heap says -/
theorem Runs.stk {i : Instr} {len : Nat} (d : DAt M pc i len q)
    (st : ∀ (p : Program) (e : Env) (s : State) (m : MethodId) (args : Array Value) (below : List Frame) (meth : Method) (c : Code) (T : State) (locs : List Loc) (L : Array Slot), p.tables.exec = Jvm.exec → decode c.code pc = .ok (i, len) → Fits P L →
      Stand p C.1 e M.2.2.2.2 s m args below meth c T locs k n → ∀ t, Steps p.tables e below (T.setTop (mkF m (pc + len) L S')) t → Steps p.tables e below (T.setTop (mkF m pc L S)) t)
    (h : Runs C M k n q P S' G Q) : Runs C M k n pc P S G Q := by
  have hq := d.2
  subst hq
  exact Runs.pure d (fun p e s m args below meth c T locs L _ hx _ _ hd hP hsz _ X => ⟨L, hP, hsz, st p e s m args below meth c T locs L hx hd hP X⟩) h
theorem Runs.iloadN {j : Fin 4} {v : Int32} (d : DAt M pc (.iload_n j) 1 q) (hl : pget P j.val = vi v) (h : Runs C M k n q P (.int v :: S) G Q) : Runs C M k n pc P S G Q :=
  Runs.stk d (fun p e s m args below meth c T locs L hx hd hP X t r => XS.iloadN (g := mkF m pc L S) X.here hx rfl hd (hP.1 _ _ hl) r) h
theorem Runs.iload {j : Nat} {v : Int32} (d : DAt M pc (.iload j) 2 q) (hl : pget P j = vi v) (h : Runs C M k n q P (.int v :: S) G Q) : Runs C M k n pc P S G Q :=
  Runs.stk d (fun p e s m args below meth c T locs L hx hd hP X t r => XS.iload (g := mkF m pc L S) X.here hx rfl hd (hP.1 _ _ hl) r) h
theorem Runs.lloadN {j : Fin 4} {v : Int64} (d : DAt M pc (.lload_n j) 1 q) (hl : pget P j.val = vl v) (h : Runs C M k n q P (.long v :: S) G Q) : Runs C M k n pc P S G Q :=
  Runs.stk d (fun p e s m args below meth c T locs L hx hd hP X t r => XS.lloadN (g := mkF m pc L S) X.here hx rfl hd (hP.1 _ _ hl) r) h
theorem Runs.lload {j : Nat} {v : Int64} (d : DAt M pc (.lload j) 2 q) (hl : pget P j = vl v) (h : Runs C M k n q P (.long v :: S) G Q) : Runs C M k n pc P S G Q :=
  Runs.stk d (fun p e s m args below meth c T locs L hx hd hP X t r => XS.lload (g := mkF m pc L S) X.here hx rfl hd (hP.1 _ _ hl) r) h
theorem Runs.aloadN {j : Fin 4} {v : Nat} (d : DAt M pc (.aload_n j) 1 q) (hl : pget P j.val = vr v) (h : Runs C M k n q P (.ref v :: S) G Q) : Runs C M k n pc P S G Q :=
  Runs.stk d (fun p e s m args below meth c T locs L hx hd hP X t r => XS.aloadN (g := mkF m pc L S) X.here hx rfl hd (hP.1 _ _ hl) rfl r) h
theorem Runs.aload {j : Nat} {v : Nat} (d : DAt M pc (.aload j) 2 q) (hl : pget P j = vr v) (h : Runs C M k n q P (.ref v :: S) G Q) : Runs C M k n pc P S G Q :=
  Runs.stk d (fun p e s m args below meth c T locs L hx hd hP X t r => XS.aload (g := mkF m pc L S) X.here hx rfl hd (hP.1 _ _ hl) rfl r) h
theorem Runs.iconst {i : Int} {v : Int32} (d : DAt M pc (.iconst i) 1 q) (hv : Int32.ofInt i = v) (h : Runs C M k n q P (.int v :: S) G Q) : Runs C M k n pc P S G Q :=
  Runs.stk d (fun p e s m args below meth c T locs L hx hd hP X t r => XS.iconst (g := mkF m pc L S) X.here hx rfl hd (by rw [hv]; exact r)) h
theorem Runs.bipush {i : Int} {v : Int32} (d : DAt M pc (.bipush i) 2 q) (hv : (Int8.ofInt i).toInt32 = v) (h : Runs C M k n q P (.int v :: S) G Q) : Runs C M k n pc P S G Q :=
  Runs.stk d (fun p e s m args below meth c T locs L hx hd hP X t r => XS.bipush (g := mkF m pc L S) X.here hx rfl hd (by rw [hv]; exact r)) h
theorem Runs.sipush {i : Int} {v : Int32} (d : DAt M pc (.sipush i) 3 q) (hv : (Int16.ofInt i).toInt32 = v) (h : Runs C M k n q P (.int v :: S) G Q) : Runs C M k n pc P S G Q :=
  Runs.stk d (fun p e s m args below meth c T locs L hx hd hP X t r => XS.sipush (g := mkF m pc L S) X.here hx rfl hd (by rw [hv]; exact r)) h
theorem Runs.lconst {i : Fin 2} {v : Int64} (d : DAt M pc (.lconst i) 1 q) (hv : Int64.ofNat i = v) (h : Runs C M k n q P (.long v :: S) G Q) : Runs C M k n pc P S G Q :=
  Runs.stk d (fun p e s m args below meth c T locs L hx hd hP X t r => Jvm.Free.XT.lconstV (g := mkF m pc L S) X.here hx rfl v hd hv r) h
theorem Runs.ldc {i : Nat} {v : Int32} (d : DAt M pc (.ldc i) 2 q) (w : Jvm.Cond.constant M.1.cls i v ∈ tables_1) (h : Runs C M k n q P (.int v :: S) G Q) : Runs C M k n pc P S G Q := by
  have hq := d.2
  subst hq
  exact Runs.pure d (fun p e s m args below meth c T locs L hw hx hown hZ hd hP hsz _ X => ⟨L, hP, hsz, fun t r => X.ldcInt hx hown (mvT hZ (hw _ w)) (g := mkF m pc L S) rfl hd t r⟩) h
theorem Runs.ldc2 {i : Nat} {v : Int64} (d : DAt M pc (.ldc2_w i) 3 q) (w : Jvm.Cond.constantLong M.1.cls i v ∈ tables_1) (h : Runs C M k n q P (.long v :: S) G Q) : Runs C M k n pc P S G Q := by
  have hq := d.2
  subst hq
  exact Runs.pure d (fun p e s m args below meth c T locs L hw hx hown hZ hd hP hsz _ X => ⟨L, hP, hsz, fun t r => X.ldc2Long hx hown (mvT hZ (hw _ w)) (g := mkF m pc L S) rfl hd t r⟩) h
theorem Runs.iadd {x y : Int32} (d : DAt M pc .iadd 1 q) (h : Runs C M k n q P (.int (x + y) :: S) G Q) : Runs C M k n pc P (.int y :: .int x :: S) G Q :=
  Runs.stk d (fun p e s m args below meth c T locs L hx hd hP X t r => XS.iadd (g := mkF m pc L (.int y :: .int x :: S)) X.here hx rfl hd rfl r) h
theorem Runs.isub {x y : Int32} (d : DAt M pc .isub 1 q) (h : Runs C M k n q P (.int (x - y) :: S) G Q) : Runs C M k n pc P (.int y :: .int x :: S) G Q :=
  Runs.stk d (fun p e s m args below meth c T locs L hx hd hP X t r => XS.isub (g := mkF m pc L (.int y :: .int x :: S)) X.here hx rfl hd rfl r) h
theorem Runs.imul {x y : Int32} (d : DAt M pc .imul 1 q) (h : Runs C M k n q P (.int (x * y) :: S) G Q) : Runs C M k n pc P (.int y :: .int x :: S) G Q :=
  Runs.stk d (fun p e s m args below meth c T locs L hx hd hP X t r => XS.imul (g := mkF m pc L (.int y :: .int x :: S)) X.here hx rfl hd rfl r) h
theorem Runs.iand {x y : Int32} (d : DAt M pc .iand 1 q) (h : Runs C M k n q P (.int (x &&& y) :: S) G Q) : Runs C M k n pc P (.int y :: .int x :: S) G Q :=
  Runs.stk d (fun p e s m args below meth c T locs L hx hd hP X t r => XS.iand (g := mkF m pc L (.int y :: .int x :: S)) X.here hx rfl hd rfl r) h
theorem Runs.ior {x y : Int32} (d : DAt M pc .ior 1 q) (h : Runs C M k n q P (.int (x ||| y) :: S) G Q) : Runs C M k n pc P (.int y :: .int x :: S) G Q :=
  Runs.stk d (fun p e s m args below meth c T locs L hx hd hP X t r => XS.ior (g := mkF m pc L (.int y :: .int x :: S)) X.here hx rfl hd rfl r) h
theorem Runs.ixor {x y : Int32} (d : DAt M pc .ixor 1 q) (h : Runs C M k n q P (.int (x ^^^ y) :: S) G Q) : Runs C M k n pc P (.int y :: .int x :: S) G Q :=
  Runs.stk d (fun p e s m args below meth c T locs L hx hd hP X t r => XS.ixor (g := mkF m pc L (.int y :: .int x :: S)) X.here hx rfl hd rfl r) h
theorem Runs.ladd {x y : Int64} (d : DAt M pc .ladd 1 q) (h : Runs C M k n q P (.long (x + y) :: S) G Q) : Runs C M k n pc P (.long y :: .long x :: S) G Q :=
  Runs.stk d (fun p e s m args below meth c T locs L hx hd hP X t r => XS.ladd (g := mkF m pc L (.long y :: .long x :: S)) X.here hx rfl hd rfl r) h
theorem Runs.lsub {x y : Int64} (d : DAt M pc .lsub 1 q) (h : Runs C M k n q P (.long (x - y) :: S) G Q) : Runs C M k n pc P (.long y :: .long x :: S) G Q :=
  Runs.stk d (fun p e s m args below meth c T locs L hx hd hP X t r => XS.lsub (g := mkF m pc L (.long y :: .long x :: S)) X.here hx rfl hd rfl r) h
theorem Runs.lmul {x y : Int64} (d : DAt M pc .lmul 1 q) (h : Runs C M k n q P (.long (x * y) :: S) G Q) : Runs C M k n pc P (.long y :: .long x :: S) G Q :=
  Runs.stk d (fun p e s m args below meth c T locs L hx hd hP X t r => XS.lmul (g := mkF m pc L (.long y :: .long x :: S)) X.here hx rfl hd rfl r) h
theorem Runs.land {x y : Int64} (d : DAt M pc .land 1 q) (h : Runs C M k n q P (.long (x &&& y) :: S) G Q) : Runs C M k n pc P (.long y :: .long x :: S) G Q :=
  Runs.stk d (fun p e s m args below meth c T locs L hx hd hP X t r => XS.land (g := mkF m pc L (.long y :: .long x :: S)) X.here hx rfl hd rfl r) h
theorem Runs.lor {x y : Int64} (d : DAt M pc .lor 1 q) (h : Runs C M k n q P (.long (x ||| y) :: S) G Q) : Runs C M k n pc P (.long y :: .long x :: S) G Q :=
  Runs.stk d (fun p e s m args below meth c T locs L hx hd hP X t r => XS.lor (g := mkF m pc L (.long y :: .long x :: S)) X.here hx rfl hd rfl r) h
theorem Runs.lxor {x y : Int64} (d : DAt M pc .lxor 1 q) (h : Runs C M k n q P (.long (x ^^^ y) :: S) G Q) : Runs C M k n pc P (.long y :: .long x :: S) G Q :=
  Runs.stk d (fun p e s m args below meth c T locs L hx hd hP X t r => XS.lxor (g := mkF m pc L (.long y :: .long x :: S)) X.here hx rfl hd rfl r) h
theorem Runs.ishl {x : Int32} {y : Int32} (d : DAt M pc .ishl 1 q) (h : Runs C M k n q P (.int (x <<< (y &&& 31)) :: S) G Q) : Runs C M k n pc P (.int y :: .int x :: S) G Q :=
  Runs.stk d (fun p e s m args below meth c T locs L hx hd hP X t r => XS.ishl (g := mkF m pc L (.int y :: .int x :: S)) X.here hx rfl hd rfl r) h
theorem Runs.ishr {x : Int32} {y : Int32} (d : DAt M pc .ishr 1 q) (h : Runs C M k n q P (.int (x >>> (y &&& 31)) :: S) G Q) : Runs C M k n pc P (.int y :: .int x :: S) G Q :=
  Runs.stk d (fun p e s m args below meth c T locs L hx hd hP X t r => XS.ishr (g := mkF m pc L (.int y :: .int x :: S)) X.here hx rfl hd rfl r) h
theorem Runs.iushr {x : Int32} {y : Int32} (d : DAt M pc .iushr 1 q) (h : Runs C M k n q P (.int ((x.toUInt32 >>> (y &&& 31).toUInt32).toInt32) :: S) G Q) : Runs C M k n pc P (.int y :: .int x :: S) G Q :=
  Runs.stk d (fun p e s m args below meth c T locs L hx hd hP X t r => XS.iushr (g := mkF m pc L (.int y :: .int x :: S)) X.here hx rfl hd rfl r) h
theorem Runs.lshl {x : Int64} {y : Int32} (d : DAt M pc .lshl 1 q) (h : Runs C M k n q P (.long (x <<< (y &&& 0x3f).toInt64) :: S) G Q) : Runs C M k n pc P (.int y :: .long x :: S) G Q :=
  Runs.stk d (fun p e s m args below meth c T locs L hx hd hP X t r => XS.lshl (g := mkF m pc L (.int y :: .long x :: S)) X.here hx rfl hd rfl r) h
theorem Runs.lshr {x : Int64} {y : Int32} (d : DAt M pc .lshr 1 q) (h : Runs C M k n q P (.long (x >>> (y &&& 0x3f).toInt64) :: S) G Q) : Runs C M k n pc P (.int y :: .long x :: S) G Q :=
  Runs.stk d (fun p e s m args below meth c T locs L hx hd hP X t r => XS.lshr (g := mkF m pc L (.int y :: .long x :: S)) X.here hx rfl hd rfl r) h
theorem Runs.lushr {x : Int64} {y : Int32} (d : DAt M pc .lushr 1 q) (h : Runs C M k n q P (.long ((x.toUInt64 >>> (y &&& 0x3f).toInt64.toUInt64).toInt64) :: S) G Q) : Runs C M k n pc P (.int y :: .long x :: S) G Q :=
  Runs.stk d (fun p e s m args below meth c T locs L hx hd hP X t r => XS.lushr (g := mkF m pc L (.int y :: .long x :: S)) X.here hx rfl hd rfl r) h
theorem Runs.ineg {x : Int32} (d : DAt M pc .ineg 1 q) (h : Runs C M k n q P (.int (-x) :: S) G Q) : Runs C M k n pc P (.int x :: S) G Q :=
  Runs.stk d (fun p e s m args below meth c T locs L hx hd hP X t r => XS.ineg (g := mkF m pc L (.int x :: S)) X.here hx rfl hd rfl r) h
theorem Runs.lneg {x : Int64} (d : DAt M pc .lneg 1 q) (h : Runs C M k n q P (.long (-x) :: S) G Q) : Runs C M k n pc P (.long x :: S) G Q :=
  Runs.stk d (fun p e s m args below meth c T locs L hx hd hP X t r => XS.lneg (g := mkF m pc L (.long x :: S)) X.here hx rfl hd rfl r) h
theorem Runs.i2l {x : Int32} (d : DAt M pc .i2l 1 q) (h : Runs C M k n q P (.long x.toInt64 :: S) G Q) : Runs C M k n pc P (.int x :: S) G Q :=
  Runs.stk d (fun p e s m args below meth c T locs L hx hd hP X t r => XS.i2l (g := mkF m pc L (.int x :: S)) X.here hx rfl hd rfl r) h
theorem Runs.l2i {x : Int64} (d : DAt M pc .l2i 1 q) (h : Runs C M k n q P (.int x.toInt32 :: S) G Q) : Runs C M k n pc P (.long x :: S) G Q :=
  Runs.stk d (fun p e s m args below meth c T locs L hx hd hP X t r => XS.l2i (g := mkF m pc L (.long x :: S)) X.here hx rfl hd rfl r) h
theorem Runs.lcmp {x y : Int64} (d : DAt M pc .lcmp 1 q) (h : Runs C M k n q P (.int (lcmpW x y) :: S) G Q) : Runs C M k n pc P (.long y :: .long x :: S) G Q :=
  Runs.stk d (fun p e s m args below meth c T locs L hx hd hP X t r => XS.lcmp (g := mkF m pc L (.long y :: .long x :: S)) X.here hx rfl hd rfl r) h
theorem Runs.idiv {x y : Int32} (d : DAt M pc .idiv 1 q) (hy : y ≠ 0) (h : Runs C M k n q P (.int (x / y) :: S) G Q) : Runs C M k n pc P (.int y :: .int x :: S) G Q :=
  Runs.stk d (fun p e s m args below meth c T locs L hx hd hP X t r => XS.idiv (g := mkF m pc L (.int y :: .int x :: S)) X.here hx rfl hd rfl hy r) h
theorem Runs.irem {x y : Int32} (d : DAt M pc .irem 1 q) (hy : y ≠ 0) (h : Runs C M k n q P (.int (x % y) :: S) G Q) : Runs C M k n pc P (.int y :: .int x :: S) G Q :=
  Runs.stk d (fun p e s m args below meth c T locs L hx hd hP X t r => iremM (g := mkF m pc L (.int y :: .int x :: S)) X hx rfl hd rfl hy r) h
theorem Runs.dup {x : Value} (d : DAt M pc .dup 1 q) (hc : x.category = 1) (h : Runs C M k n q P (x :: x :: S) G Q) : Runs C M k n pc P (x :: S) G Q :=
  Runs.stk d (fun p e s m args below meth c T locs L hx hd hP X t r => XS.dup (g := mkF m pc L (x :: S)) X.here hx rfl hd rfl hc r) h
theorem Runs.dup2 {x y : Value} (d : DAt M pc .dup2 1 q) (hc : x.category = 1) (hc' : y.category = 1) (h : Runs C M k n q P (x :: y :: x :: y :: S) G Q) : Runs C M k n pc P (x :: y :: S) G Q :=
  Runs.stk d (fun p e s m args below meth c T locs L hx hd hP X t r => Jvm.Free.XT.dup2 (g := mkF m pc L (x :: y :: S)) X.here hx rfl hd rfl hc hc' r) h
theorem Runs.pop {x : Value} (d : DAt M pc .pop 1 q) (hc : x.category = 1) (h : Runs C M k n q P S G Q) : Runs C M k n pc P (x :: S) G Q :=
  Runs.stk d (fun p e s m args below meth c T locs L hx hd hP X t r => XS.pop (g := mkF m pc L (x :: S)) X.here hx rfl hd rfl hc r) h
theorem Runs.goto {o : Int} {pc' : Nat} (d : DAt M pc (.goto o) 3 q) (ho : 0 ≤ (pc : Int) + o ∧ ((pc : Int) + o).toNat = pc') (h : Runs C M k n pc' P S G Q) : Runs C M k n pc P S G Q :=
  Runs.pure d (fun p e s m args below meth c T locs L hw hx hown hZ hd hP hsz _ X => ⟨L, hP, hsz, fun t r => XS.goto (g := mkF m pc L S) X.here hx rfl (pc0 := pc) rfl hd ho.1 ho.2 r⟩) h
theorem Runs.ifY {cd : ClassFile.Cond} {x : Int32} {o : Int} {pc' : Nat} (d : DAt M pc (.ifCond cd o) 3 q) (hc : if_icmp.holds cd x 0 = true) (ho : 0 ≤ (pc : Int) + o ∧ ((pc : Int) + o).toNat = pc') (h : Runs C M k n pc' P S G Q) : Runs C M k n pc P (.int x :: S) G Q :=
  Runs.pure d (fun p e s m args below meth c T locs L hw hx hown hZ hd hP hsz _ X => ⟨L, hP, hsz, fun t r => XS.ifYes (g := mkF m pc L (.int x :: S)) X.here hx rfl (pc0 := pc) rfl hd rfl ((if0 _ _).trans hc) ho.1 ho.2 r⟩) h
theorem Runs.ifN {cd : ClassFile.Cond} {x : Int32} {o : Int} (d : DAt M pc (.ifCond cd o) 3 q) (hc : if_icmp.holds cd x 0 = false) (h : Runs C M k n q P S G Q) : Runs C M k n pc P (.int x :: S) G Q :=
  Runs.stk d (fun p e s m args below meth c T locs L hx hd hP X t r => XS.ifNo (g := mkF m pc L (.int x :: S)) X.here hx rfl hd rfl ((if0 _ _).trans hc) r) h
theorem Runs.icY {cd : ClassFile.Cond} {x y : Int32} {o : Int} {pc' : Nat} (d : DAt M pc (.if_icmp cd o) 3 q) (hc : if_icmp.holds cd x y = true) (ho : 0 ≤ (pc : Int) + o ∧ ((pc : Int) + o).toNat = pc') (h : Runs C M k n pc' P S G Q) : Runs C M k n pc P (.int y :: .int x :: S) G Q :=
  Runs.pure d (fun p e s m args below meth c T locs L hw hx hown hZ hd hP hsz _ X => ⟨L, hP, hsz, fun t r => XS.icmpYes (g := mkF m pc L (.int y :: .int x :: S)) X.here hx rfl (pc0 := pc) rfl hd rfl hc ho.1 ho.2 r⟩) h
theorem Runs.icN {cd : ClassFile.Cond} {x y : Int32} {o : Int} (d : DAt M pc (.if_icmp cd o) 3 q) (hc : if_icmp.holds cd x y = false) (h : Runs C M k n q P S G Q) : Runs C M k n pc P (.int y :: .int x :: S) G Q :=
  Runs.stk d (fun p e s m args below meth c T locs L hx hd hP X t r => XS.icmpNo (g := mkF m pc L (.int y :: .int x :: S)) X.here hx rfl hd rfl hc r) h
theorem Runs.tswI {dflt low high : Int} {offs : Array Int} {len : Nat} {o : Int} {pc' : Nat} {i : Int32} (d : DAt M pc (.tableswitch dflt low high offs) len q) (hin : ¬ (i.toInt < low ∨ i.toInt > high)) (hoff : offs[(i.toInt - low).toNat]? = some o) (ho : 0 ≤ (pc : Int) + o ∧ ((pc : Int) + o).toNat = pc') (h : Runs C M k n pc' P S G Q) : Runs C M k n pc P (.int i :: S) G Q :=
  Runs.pure d (fun p e s m args below meth c T locs L hw hx hown hZ hd hP hsz _ X => ⟨L, hP, hsz, fun t r => XS.tswIn (g := mkF m pc L (.int i :: S)) X.here hx rfl (pc0 := pc) rfl hd rfl hin hoff ho.1 ho.2 r⟩) h
theorem Runs.tswO {dflt low high : Int} {offs : Array Int} {len : Nat} {pc' : Nat} {i : Int32} (d : DAt M pc (.tableswitch dflt low high offs) len q) (hout : i.toInt < low ∨ i.toInt > high) (ho : 0 ≤ (pc : Int) + dflt ∧ ((pc : Int) + dflt).toNat = pc') (h : Runs C M k n pc' P S G Q) : Runs C M k n pc P (.int i :: S) G Q :=
  Runs.pure d (fun p e s m args below meth c T locs L hw hx hown hZ hd hP hsz _ X => ⟨L, hP, hsz, fun t r => XS.tswOut (g := mkF m pc L (.int i :: S)) X.here hx rfl (pc0 := pc) rfl hd rfl hout ho.1 ho.2 r⟩) h
theorem Runs.istoreN {j : Fin 4} {x : Int32} (d : DAt M pc (.istore_n j) 1 q) (hi : j.val < M.2.2.1) (hP' : ps1 P j.val (.int x) = P') (h : Runs C M k n q P' S G Q) : Runs C M k n pc P (.int x :: S) G Q := by
  have hq := d.2
  subst hq hP'
  refine Runs.pure d (fun p e s m args below meth c T locs L hw hx hown hZ hd hP hsz _ X => ?_) h
  obtain ⟨L', e1, e2, e3⟩ := hP.store1 (i := j.val) (v := .int x) (by omega) rfl
  exact ⟨L', e3, e2.trans hsz, fun t r => XS.istoreN (g := mkF m pc L (.int x :: S)) X.here hx rfl hd rfl e1 r⟩
theorem Runs.istore {j : Nat} {x : Int32} (d : DAt M pc (.istore j) 2 q) (hi : j < M.2.2.1) (hP' : ps1 P j (.int x) = P') (h : Runs C M k n q P' S G Q) : Runs C M k n pc P (.int x :: S) G Q := by
  have hq := d.2
  subst hq hP'
  refine Runs.pure d (fun p e s m args below meth c T locs L hw hx hown hZ hd hP hsz _ X => ?_) h
  obtain ⟨L', e1, e2, e3⟩ := hP.store1 (i := j) (v := .int x) (by omega) rfl
  exact ⟨L', e3, e2.trans hsz, fun t r => XS.istore (g := mkF m pc L (.int x :: S)) X.here hx rfl hd rfl e1 r⟩
theorem Runs.astoreN {j : Fin 4} {x : Nat} (d : DAt M pc (.astore_n j) 1 q) (hi : j.val < M.2.2.1) (hP' : ps1 P j.val (.ref x) = P') (h : Runs C M k n q P' S G Q) : Runs C M k n pc P (.ref x :: S) G Q := by
  have hq := d.2
  subst hq hP'
  refine Runs.pure d (fun p e s m args below meth c T locs L hw hx hown hZ hd hP hsz _ X => ?_) h
  obtain ⟨L', e1, e2, e3⟩ := hP.store1 (i := j.val) (v := .ref x) (by omega) rfl
  exact ⟨L', e3, e2.trans hsz, fun t r => XS.astoreN (g := mkF m pc L (.ref x :: S)) X.here hx rfl hd rfl rfl e1 r⟩
theorem Runs.astore {j : Nat} {x : Nat} (d : DAt M pc (.astore j) 2 q) (hi : j < M.2.2.1) (hP' : ps1 P j (.ref x) = P') (h : Runs C M k n q P' S G Q) : Runs C M k n pc P (.ref x :: S) G Q := by
  have hq := d.2
  subst hq hP'
  refine Runs.pure d (fun p e s m args below meth c T locs L hw hx hown hZ hd hP hsz _ X => ?_) h
  obtain ⟨L', e1, e2, e3⟩ := hP.store1 (i := j) (v := .ref x) (by omega) rfl
  exact ⟨L', e3, e2.trans hsz, fun t r => XS.astore (g := mkF m pc L (.ref x :: S)) X.here hx rfl hd rfl rfl e1 r⟩
theorem Runs.lstoreN {j : Fin 4} {x : Int64} (d : DAt M pc (.lstore_n j) 1 q) (hi : j.val + 1 < M.2.2.1) (hP' : ps2 P j.val (.long x) = P') (h : Runs C M k n q P' S G Q) : Runs C M k n pc P (.long x :: S) G Q := by
  have hq := d.2
  subst hq hP'
  refine Runs.pure d (fun p e s m args below meth c T locs L hw hx hown hZ hd hP hsz _ X => ?_) h
  obtain ⟨L', e1, e2, e3⟩ := hP.store2 (i := j.val) (v := .long x) (by omega) rfl
  exact ⟨L', e3, e2.trans hsz, fun t r => XS.lstoreN (g := mkF m pc L (.long x :: S)) X.here hx rfl hd rfl e1 r⟩
theorem Runs.lstore {j : Nat} {x : Int64} (d : DAt M pc (.lstore j) 2 q) (hi : j + 1 < M.2.2.1) (hP' : ps2 P j (.long x) = P') (h : Runs C M k n q P' S G Q) : Runs C M k n pc P (.long x :: S) G Q := by
  have hq := d.2
  subst hq hP'
  refine Runs.pure d (fun p e s m args below meth c T locs L hw hx hown hZ hd hP hsz _ X => ?_) h
  obtain ⟨L', e1, e2, e3⟩ := hP.store2 (i := j) (v := .long x) (by omega) rfl
  exact ⟨L', e3, e2.trans hsz, fun t r => XS.lstore (g := mkF m pc L (.long x :: S)) X.here hx rfl hd rfl e1 r⟩
theorem Runs.iinc {j : Nat} {cst : Int} {x v : Int32} (d : DAt M pc (.iinc j cst) 3 q) (hv : Int32.ofInt cst = v) (hl : pget P j = vi x) (hi : j < M.2.2.1) (hP' : ps1 P j (.int (x + v)) = P') (h : Runs C M k n q P' S G Q) : Runs C M k n pc P S G Q := by
  have hq := d.2
  subst hq hP' hv
  refine Runs.pure d (fun p e s m args below meth c T locs L hw hx hown hZ hd hP hsz _ X => ?_) h
  obtain ⟨L', e1, e2, e3⟩ := hP.store1 (i := j) (v := .int (x + Int32.ofInt cst)) (by omega) rfl
  exact ⟨L', e3, e2.trans hsz, fun t r => XS.iinc (g := mkF m pc L S) X.here hx rfl hd (hP.1 _ _ hl) e1 r⟩
/-- less is known of the locals -/
def psub : Pat → Pat → Prop
  | [], _ => True
  | none :: l, _ :: l' => psub l l'
  | some s :: l, y :: l' => y = some s ∧ psub l l'
  | none :: l, [] => psub l []
  | some _ :: _, [] => False
theorem psub_get : ∀ (P P' : Pat), psub P P' → ∀ i s, pget P i = some s → pget P' i = some s
  | [], _, _, i, s, h => by simp [pget] at h
  | none :: l, _ :: l', H, 0, s, h => by simp [pget] at h
  | none :: l, _ :: l', H, i + 1, s, h => psub_get l l' H i s h
  | some x :: l, y :: l', H, 0, s, h => by rw [show y = some x from H.1]; exact h
  | some x :: l, y :: l', H, i + 1, s, h => psub_get l l' H.2 i s h
  | none :: l, [], H, 0, s, h => by simp [pget] at h
  | none :: l, [], H, i + 1, s, h => by have := psub_get l [] H i s h; simp [pget] at this
  | some _ :: _, [], H, _, _, _ => H.elim
theorem Runs.weak (hP : psub P' P) (h : Runs C M k n pc P' S G Q) : Runs C M k n pc P S G Q := by
  intro hw p e s m args below meth c T locs L hx hby hml hret hnm hown hZ hf
  exact h hw p e s m args below meth c T locs L hx hby hml hret hnm hown hZ ⟨fun i s hi => hf.1 i s (psub_get _ _ hP i s hi), hf.2⟩
theorem Runs.swap {top : Nat} {x y : Nat × Nat × Rec} {H : List (Nat × Nat × Rec)} (h : Runs C M k n pc P S (top, y :: x :: H) Q) : Runs C M k n pc P S (top, x :: y :: H) Q := by
  intro hw p e s m args below meth c T locs L hx hby hml hret hnm hown hZ hf hsz X hR hF
  exact h hw p e s m args below meth c T locs L hx hby hml hret hnm hown hZ hf hsz X hR.swap hF
end Rules
/- the steps that touch the heap -/
section Made
variable {p : Program} {l : Launch} {e : Env} {R : Room} {s : State} {m : MethodId} {args : Array Value} {below : List Frame} {meth : Method} {c : Code} {T : State} {locs : List Loc} {cells slots : Nat} {Z : State} {a0 : Array Value}
theorem ext_push (h : Heap) (x : Cell) : Ext h (h.push x) := ⟨by simp, fun a c q => by rw [Array.getElem?_push_lt (Array.getElem?_eq_some_iff.mp q).1]; exact (Array.getElem?_eq_getElem _).symm.trans q⟩
/-- 'new', with the heap's size behind it -/
theorem new1 (X : Stand p l e R s m args below meth c T locs cells slots) (hx : p.tables.exec = Jvm.exec) (hZ : Z.Warmed39 s.vm) {own C : String} {index n : Nat} (hown : s.vm.findClass own = some m.cls) (w : (Jvm.Cond.classLink own index C).before a0 Z = true) (wi : (Jvm.Cond.instantiable C n).before a0 Z = true) (wz : (Jvm.Cond.initialized C).before a0 Z = true)
    {g : JFrame} (hg : g.method = m) (hd : decode c.code g.pc = .ok (.new index, 3)) (hc : cells + 1 ≤ R.cells) (hl : slots + n ≤ R.slots) :
    ∃ T', Stand p l e R s m args below meth c T' locs (cells + 1) (slots + n) ∧ T'.heap.size = T.heap.size + 1 ∧ Ext T.heap T'.heap ∧ Exa Z T'.heap T.heap.size C ∧ (∀ {O nm d : String} {ty : FieldType}, Laid Z a0 C O nm d → parseFieldDescriptor d = some ty → Fld Z T'.heap T.heap.size O nm d (defaultValue ty)) ∧
      ∀ target, Steps p.tables e below (T'.setTop { g with pc := g.pc + 3, stack := .ref T.heap.size :: g.stack }) target → Steps p.tables e below (T.setTop g) target := by
  obtain ⟨vm', cC, kC, h1, h2, h3, h4, X', st⟩ := X.newCold hx hown (mv hZ w) (mv hZ wi) (mv hZ wz) hg hd hc hl
  rw [hZ.alike.findClass] at h1
  obtain ⟨kZ, z1, -⟩ := Vm.findClass_spec h1
  obtain ⟨k', z2, z3⟩ := hZ.alike.2.2 _ _ z1
  have ek : kC.instanceTypes = kZ.instanceTypes := by rw [Option.some.inj (h2.symm.trans z2), z3]
  obtain ⟨cell, hcell⟩ : ∃ cell : Cell, cell = { cls := cC, slots := kC.instanceTypes.map defaultValue, vm := .none } := ⟨_, rfl⟩
  rw [← hcell] at X' st
  have hp : ((T.setVm vm').pushCell cell).heap = T.heap.push cell := rfl
  have at' : (T.heap.push cell)[T.heap.size]? = some cell := by simp
  refine ⟨_, X', by rw [hp]; simp, by rw [hp]; exact ext_push _ _, ?_, fun {O nm d ty} L ht => ?_, st⟩
  · rw [hp]; exact ⟨cell, kZ, at', by rw [hcell]; exact h1, by rw [hcell]; exact z1, by rw [hcell]; rfl, fun _ => by rw [hcell]; simp [ek]⟩
  · rw [hp]
    obtain ⟨c1, k1, cf, kf, i, f, a1, a2, a3, a4, a5, a6, -⟩ := L.spec
    cases h1.symm.trans a1
    cases z1.symm.trans a2
    refine ⟨cell, cf, kf, i, f, at', a3, a4, by rw [hcell]; simp, by rw [hcell]; rfl, by rw [hcell]; exact a5, ?_⟩
    rw [hcell]; simp [ek, a6, (State.fieldFound?_type a3 ht).2]
theorem newArr1 (X : Stand p l e R s m args below meth c T locs cells slots) (hx : p.tables.exec = Jvm.exec) (hZ : Z.Warmed39 s.vm) {aty : ArrayType} (w : (Jvm.Cond.arrayClass (newarray.typeOf aty)).before a0 Z = true) {g : JFrame} (hg : g.method = m) (hd : decode c.code g.pc = .ok (.newarray aty, 2)) {n : Int32} {rest : List Value} (hs : g.stack = .int n :: rest)
    (hn : ¬ n < 0) (hb : n.toNatClampNeg * 8 ≤ 536870912) (hc : cells + 1 ≤ R.cells) (hl : slots + n.toNatClampNeg ≤ R.slots) :
    ∃ T' cA, Stand p l e R s m args below meth c T' locs (cells + 1) (slots + n.toNatClampNeg) ∧ T'.heap.size = T.heap.size + 1 ∧ Ext T.heap T'.heap ∧ Arr Z T'.heap T.heap.size (newA cA (newarray.typeOf aty) n) (newarray.typeOf aty) ∧
      ∀ target, Steps p.tables e below (T'.setTop { g with pc := g.pc + 2, stack := .ref T.heap.size :: rest }) target → Steps p.tables e below (T.setTop g) target := by
  have hcb : componentBytes (newarray.typeOf aty) ≤ 8 := by cases aty <;> decide
  obtain ⟨cA, kA, comp, h1, h2, h3, X', st⟩ := X.newarrayPrim hx (mvA hZ w) hg hd hs hn (Nat.le_trans (Nat.mul_le_mul_left _ hcb) hb) hc hl
  rw [hZ.alike.findClass] at h1
  obtain ⟨kZ, z1, -⟩ := Vm.findClass_spec h1
  obtain ⟨k', z2, z3⟩ := hZ.alike.2.2 _ _ z1
  have ek : kA.kind = kZ.kind := by rw [Option.some.inj (h2.symm.trans z2), z3]
  have hp : (T.pushCell (newA cA (newarray.typeOf aty) n)).heap = T.heap.push (newA cA (newarray.typeOf aty) n) := rfl
  refine ⟨T.pushCell (newA cA (newarray.typeOf aty) n), cA, X', by rw [hp]; simp, by rw [hp]; exact ext_push _ _, ?_, st⟩
  rw [hp]
  exact ⟨by simp, ⟨by simp [newA], kZ, z1, comp, by rw [← ek]; exact h3⟩, by simp [newA]⟩
end Made
section Heap
variable {C : Ctx} {M : Bdy} {k n pc q : Nat} {P P' : Pat} {S S' : List Value} {G : AH} {Q : Option Value → AH → Prop} {top : Nat} {a : Nat} {qq j idx : Nat} {ob : Rec} {H : List (Nat × Nat × Rec)} {nm ds : String}
theorem Runs.getI (d : DAt M pc (.getfield idx) 3 q) (w : Jvm.Cond.fieldLink M.1.cls idx K.1 nm ds ∈ tables_1) (hk : K.2.1[j]? = some (nm, ds)) (h : Runs C M k n q P (.int (gI ob j) :: S) (top, (a, qq, ob) :: H) Q) : Runs C M k n pc P (.ref a :: S) (top, (a, qq, ob) :: H) Q := by
  intro hw p e s m args below meth c T locs L hx hby hml hret hnm hown hZ hf hsz X hR hF
  have hq := d.2
  subst hq
  obtain ⟨T1, X1, e1, st1⟩ := getF X hx hZ hown (host := "") (Or.inl (hw _ w)) Via.refl rfl (hR.objs.2.2.2.1 j _ hk) (g := mkF m pc L (.ref a :: S)) rfl rfl (hb hby d.1)
  obtain ⟨T', locs', k', n', r, G', g1, g2, g3, g4, g5, g6, g7, g8⟩ := h hw p e s m args below meth c T1 locs L hx hby hml hret hnm hown hZ hf hsz X1 (by rw [e1]; exact hR) hF
  exact ⟨T', locs', k', n', r, G', g1, g2, g3, g4, g5, g6, g7, fun fs hr => st1 _ (g8 fs hr)⟩
theorem Runs.getA {ty : FieldType} {len : Int32} (d : DAt M pc (.getfield idx) 3 q) (hk : K.2.2[j]? = some (nm, ty, len)) (w : Jvm.Cond.fieldLink M.1.cls idx K.1 nm (aD ty) ∈ tables_1) (hq : j < qq) (h : Runs C M k n q P (.ref (a + 1 + j) :: S) (top, (a, qq, ob) :: H) Q) : Runs C M k n pc P (.ref a :: S) (top, (a, qq, ob) :: H) Q := by
  intro hw p e s m args below meth c T locs L hx hby hml hret hnm hown hZ hf hsz X hR hF
  have hqq := d.2
  subst hqq
  obtain ⟨T1, X1, e1, st1⟩ := getF X hx hZ hown (host := "") (Or.inl (hw _ w)) Via.refl rfl (hR.objs.2.2.2.2.1 j _ hk hq).1 (g := mkF m pc L (.ref a :: S)) rfl rfl (hb hby d.1)
  obtain ⟨T', locs', k', n', r, G', g1, g2, g3, g4, g5, g6, g7, g8⟩ := h hw p e s m args below meth c T1 locs L hx hby hml hret hnm hown hZ hf hsz X1 (by rw [e1]; exact hR) hF
  exact ⟨T', locs', k', n', r, G', g1, g2, g3, g4, g5, g6, g7, fun fs hr => st1 _ (g8 fs hr)⟩
theorem lw_of {Z : State} {a0 : Array Value} {meth : Method} (hw : ∀ d ∈ tables_1, d.before a0 Z = true) {C O n d own : String} (h : Jvm.Cond.lays C O n d ∈ tables_1 ∨ Jvm.Cond.laysFinal C O n d ∈ tables_1) (hc : Jvm.Cond.lays C O n d ∈ tables_1 ∨ (own = O ∧ meth.name = "<init>")) : (Jvm.Cond.lays C O n d).before a0 Z = true ∨ ((Jvm.Cond.laysFinal C O n d).before a0 Z = true ∧ own = O ∧ meth.name = "<init>") := by
  rcases hc with hc | hc
  · exact Or.inl (hw _ hc)
  · exact h.imp (hw _) (fun u => ⟨hw _ u, hc⟩)
/-- a field that may be written here: not final, or in a constructor of its class -/
def Mine (M : Bdy) (nm ds : String) : Prop := Jvm.Cond.lays K.1 K.1 nm ds ∈ tables_1 ∨ (M.1.cls = K.1 ∧ M.1.name = "<init>")
theorem Runs.putI {x : Int32} (d : DAt M pc (.putfield idx) 3 q) (w : Jvm.Cond.fieldLink M.1.cls idx K.1 nm "I" ∈ tables_1) (hk : K.2.1[j]? = some (nm, "I")) (hm : Mine M nm "I") (h : Runs C M k n q P S (top, (a, qq, sI ob j x) :: H) Q) : Runs C M k n pc P (.int x :: .ref a :: S) (top, (a, qq, ob) :: H) Q := by
  intro hw p e s m args below meth c T locs L hx hby hml hret hnm hown hZ hf hsz X hR hF
  have hqq := d.2
  subst hqq
  obtain ⟨T1, h1, X1, e1, W1, st1⟩ := putF X hx hZ hown (host := "") (Or.inl (hw _ w)) Via.refl rfl (hR.objs.2.2.2.1 j _ hk) hR.objs.2.2.1 (lw_of hw ((All.mem kS (List.mem_of_getElem? hk)).1) (hm.imp id (fun u => ⟨u.1, hnm.trans u.2⟩))) (hw _ kI) (ty := .int) (by decide) rfl rfl (g := mkF m pc L (.int x :: .ref a :: S)) rfl rfl (hb hby d.1)
  obtain ⟨T', locs', k', n', r, G', g1, g2, g3, g4, g5, g6, g7, g8⟩ := h hw p e s m args below meth c T1 _ L hx hby hml hret hnm hown hZ hf hsz X1 (by rw [e1]; exact hR.putI hw hk W1) (Fr.snoc X1 hF hR.objs.1)
  exact ⟨T', locs', k', n', r, G', g1, g2, g3, g4, g5, g6, g7, fun fs hr => st1 _ (g8 fs hr)⟩
theorem Runs.putZ {x y : Int32} (d : DAt M pc (.putfield idx) 3 q) (w : Jvm.Cond.fieldLink M.1.cls idx K.1 nm "Z" ∈ tables_1) (hk : K.2.1[j]? = some (nm, "Z")) (hm : Mine M nm "Z") (hy : nar .boolean x = y) (h : Runs C M k n q P S (top, (a, qq, sI ob j y) :: H) Q) : Runs C M k n pc P (.int x :: .ref a :: S) (top, (a, qq, ob) :: H) Q := by
  subst hy
  intro hw p e s m args below meth c T locs L hx hby hml hret hnm hown hZ hf hsz X hR hF
  have hqq := d.2
  subst hqq
  obtain ⟨T1, h1, X1, e1, W1, st1⟩ := putFN X hx hZ hown (hw _ w) Via.refl rfl (hR.objs.2.2.2.1 j _ hk) hR.objs.2.2.1 (lw_of hw ((All.mem kS (List.mem_of_getElem? hk)).1) (hm.imp id (fun u => ⟨u.1, hnm.trans u.2⟩))) (hw _ kI) (ty := .boolean) (v' := .int (nar .boolean x)) (by decide) rfl (fits_nar_bool _) (g := mkF m pc L (.int x :: .ref a :: S)) rfl rfl (hb hby d.1)
  obtain ⟨T', locs', k', n', r, G', g1, g2, g3, g4, g5, g6, g7, g8⟩ := h hw p e s m args below meth c T1 _ L hx hby hml hret hnm hown hZ hf hsz X1 (by rw [e1]; exact hR.putI hw hk W1) (Fr.snoc X1 hF hR.objs.1)
  exact ⟨T', locs', k', n', r, G', g1, g2, g3, g4, g5, g6, g7, fun fs hr => st1 _ (g8 fs hr)⟩
theorem Runs.ialoadA {i len : Int32} (d : DAt M pc .iaload 1 q) (hk : K.2.2[j]? = some (nm, .int, len)) (hq : j < qq) (hi : ¬ i < 0 ∧ i < len) (h : Runs C M k n q P (.int (gA ob j i) :: S) (top, (a, qq, ob) :: H) Q) : Runs C M k n pc P (.int i :: .ref (a + 1 + j) :: S) (top, (a, qq, ob) :: H) Q := by
  have hqq := d.2
  subst hqq
  refine Runs.pure d (fun p e s m args below meth c T locs L hw hx hown hZ hd hP hsz hR X => ⟨L, hP, hsz, fun t r => ?_⟩) h
  obtain ⟨cl, A, Sz, V⟩ := (hR.objs.2.2.2.2.1 j _ hk hq).2
  exact X.iaload hx (j := i) (v := .int (gA ob j i)) A.1 (State.isArrayOf_alike hZ.alike A.2.1) A.2.2 (inb_of Sz hi) (V i hi.1 hi.2) (g := mkF m pc L (.int i :: .ref (a + 1 + j) :: S)) rfl rfl hd _ r
theorem Runs.baloadA {i len : Int32} (d : DAt M pc .baload 1 q) (hk : K.2.2[j]? = some (nm, .boolean, len)) (hq : j < qq) (hi : ¬ i < 0 ∧ i < len) (h : Runs C M k n q P (.int (gA ob j i) :: S) (top, (a, qq, ob) :: H) Q) : Runs C M k n pc P (.int i :: .ref (a + 1 + j) :: S) (top, (a, qq, ob) :: H) Q := by
  have hqq := d.2
  subst hqq
  refine Runs.pure d (fun p e s m args below meth c T locs L hw hx hown hZ hd hP hsz hR X => ⟨L, hP, hsz, fun t r => ?_⟩) h
  obtain ⟨cl, A, Sz, V⟩ := (hR.objs.2.2.2.2.1 j _ hk hq).2
  exact X.baloadBooleans hx (j := i) (v := .int (gA ob j i)) A.1 (State.isArrayOf_alike hZ.alike A.2.1) A.2.2 (inb_of Sz hi) (V i hi.1 hi.2) (g := mkF m pc L (.int i :: .ref (a + 1 + j) :: S)) rfl rfl hd _ r
theorem Runs.laloadA {i len : Int32} (d : DAt M pc .laload 1 q) (hk : K.2.2[j]? = some (nm, .long, len)) (hq : j < qq) (hi : ¬ i < 0 ∧ i < len) (h : Runs C M k n q P (.long (gJ ob j i) :: S) (top, (a, qq, ob) :: H) Q) : Runs C M k n pc P (.int i :: .ref (a + 1 + j) :: S) (top, (a, qq, ob) :: H) Q := by
  have hqq := d.2
  subst hqq
  refine Runs.pure d (fun p e s m args below meth c T locs L hw hx hown hZ hd hP hsz hR X => ⟨L, hP, hsz, fun t r => ?_⟩) h
  obtain ⟨cl, A, Sz, V⟩ := (hR.objs.2.2.2.2.1 j _ hk hq).2
  exact X.laload hx (j := i) (v := .long (gJ ob j i)) A.1 (State.isArrayOf_alike hZ.alike A.2.1) A.2.2 (inb_of Sz hi) (V i hi.1 hi.2) (g := mkF m pc L (.int i :: .ref (a + 1 + j) :: S)) rfl rfl hd _ r
theorem Runs.iastoreA {i x len : Int32} (d : DAt M pc .iastore 1 q) (hk : K.2.2[j]? = some (nm, .int, len)) (hq : j < qq) (hi : ¬ i < 0 ∧ i < len) (h : Runs C M k n q P S (top, (a, qq, sA ob j i x) :: H) Q) : Runs C M k n pc P (.int x :: .int i :: .ref (a + 1 + j) :: S) (top, (a, qq, ob) :: H) Q := by
  intro hw p e s m args below meth c T locs L hx hby hml hret hnm hown hZ hf hsz X hR hF
  have hqq := d.2
  subst hqq
  obtain ⟨cl, A, Sz, V⟩ := (hR.objs.2.2.2.2.1 j _ hk hq).2
  obtain ⟨T1, h1, X1, e1, W1, st1⟩ := stI X hx hZ rfl A (j := i) (x := x) (inb_of Sz hi) (g := mkF m pc L (.int x :: .int i :: .ref (a + 1 + j) :: S)) rfl rfl (hb hby d.1)
  obtain ⟨T', locs', k', n', r, G', g1, g2, g3, g4, g5, g6, g7, g8⟩ := h hw p e s m args below meth c T1 _ L hx hby hml hret hnm hown hZ hf hsz X1 (by rw [e1]; exact hR.putA hk hq (by simp) hi W1) (Fr.snoc X1 hF (by have := hR.objs.1; omega))
  exact ⟨T', locs', k', n', r, G', g1, g2, g3, g4, g5, g6, g7, fun fs hr => st1 _ (g8 fs hr)⟩
theorem Runs.bastoreA {i x len : Int32} (d : DAt M pc .bastore 1 q) (hk : K.2.2[j]? = some (nm, .boolean, len)) (hq : j < qq) (hi : ¬ i < 0 ∧ i < len) {y : Int32} (hy : nar .boolean x = y) (h : Runs C M k n q P S (top, (a, qq, sA ob j i y) :: H) Q) : Runs C M k n pc P (.int x :: .int i :: .ref (a + 1 + j) :: S) (top, (a, qq, ob) :: H) Q := by
  subst hy
  intro hw p e s m args below meth c T locs L hx hby hml hret hnm hown hZ hf hsz X hR hF
  have hqq := d.2
  subst hqq
  obtain ⟨cl, A, Sz, V⟩ := (hR.objs.2.2.2.2.1 j _ hk hq).2
  obtain ⟨T1, h1, X1, e1, W1, st1⟩ := stZ X hx hZ rfl A (j := i) (x := x) (inb_of Sz hi) (g := mkF m pc L (.int x :: .int i :: .ref (a + 1 + j) :: S)) rfl rfl (hb hby d.1)
  obtain ⟨T', locs', k', n', r, G', g1, g2, g3, g4, g5, g6, g7, g8⟩ := h hw p e s m args below meth c T1 _ L hx hby hml hret hnm hown hZ hf hsz X1 (by rw [e1]; exact hR.putA hk hq (by simp) hi W1) (Fr.snoc X1 hF (by have := hR.objs.1; omega))
  exact ⟨T', locs', k', n', r, G', g1, g2, g3, g4, g5, g6, g7, fun fs hr => st1 _ (g8 fs hr)⟩
theorem Runs.lastoreA {i len : Int32} {x : Int64} (d : DAt M pc .lastore 1 q) (hk : K.2.2[j]? = some (nm, .long, len)) (hq : j < qq) (hi : ¬ i < 0 ∧ i < len) (h : Runs C M k n q P S (top, (a, qq, sJ ob j i x) :: H) Q) : Runs C M k n pc P (.long x :: .int i :: .ref (a + 1 + j) :: S) (top, (a, qq, ob) :: H) Q := by
  intro hw p e s m args below meth c T locs L hx hby hml hret hnm hown hZ hf hsz X hR hF
  have hqq := d.2
  subst hqq
  obtain ⟨cl, A, Sz, V⟩ := (hR.objs.2.2.2.2.1 j _ hk hq).2
  obtain ⟨T1, h1, X1, e1, W1, st1⟩ := stJ X hx hZ rfl A (j := i) (x := x) (inb_of Sz hi) (g := mkF m pc L (.long x :: .int i :: .ref (a + 1 + j) :: S)) rfl rfl (hb hby d.1)
  obtain ⟨T', locs', k', n', r, G', g1, g2, g3, g4, g5, g6, g7, g8⟩ := h hw p e s m args below meth c T1 _ L hx hby hml hret hnm hown hZ hf hsz X1 (by rw [e1]; exact hR.putJ hk hq rfl hi W1) (Fr.snoc X1 hF (by have := hR.objs.1; omega))
  exact ⟨T', locs', k', n', r, G', g1, g2, g3, g4, g5, g6, g7, fun fs hr => st1 _ (g8 fs hr)⟩
/-- the script: an array that stood before the law began -/
def ScrF (C : Ctx) (sa : Nat) (z : Int32) (f : Int32 → Int32) : Prop := ∃ cl : Cell, Scr C.2.1 C.2.1.heap sa cl z ∧ f = atv cl
theorem Runs.lenS {sa : Nat} {z : Int32} {f : Int32 → Int32} (hs : ScrF C sa z f) (d : DAt M pc .arraylength 1 q) (h : Runs C M k n q P (.int z :: S) G Q) : Runs C M k n pc P (.ref sa :: S) G Q := by
  have hqq := d.2
  subst hqq
  refine Runs.pure d (fun p e s m args below meth c T locs L hw hx hown hZ hd hP hsz hR X => ⟨L, hP, hsz, fun t r => ?_⟩) h
  obtain ⟨cl, F, -⟩ := hs
  obtain ⟨A, Sz, N, V⟩ := F.ext hR.2.1.2
  exact X.arraylength hx A.1 (State.isArrayOf_alike hZ.alike A.2.1) (g := mkF m pc L (.ref sa :: S)) rfl rfl hd _ (by rw [len_of Sz N]; exact r)
theorem Runs.ialoadS {sa : Nat} {z i : Int32} {f : Int32 → Int32} (hs : ScrF C sa z f) (d : DAt M pc .iaload 1 q) (hi : ¬ i < 0 ∧ i < z) (h : Runs C M k n q P (.int (f i) :: S) G Q) : Runs C M k n pc P (.int i :: .ref sa :: S) G Q := by
  have hqq := d.2
  subst hqq
  refine Runs.pure d (fun p e s m args below meth c T locs L hw hx hown hZ hd hP hsz hR X => ⟨L, hP, hsz, fun t r => ?_⟩) h
  obtain ⟨cl, F, rfl⟩ := hs
  obtain ⟨A, Sz, N, V⟩ := F.ext hR.2.1.2
  exact X.iaload hx (j := i) (v := .int (atv cl i)) A.1 (State.isArrayOf_alike hZ.alike A.2.1) A.2.2 (inb_of Sz hi) (V i (inb_of Sz hi)) (g := mkF m pc L (.int i :: .ref sa :: S)) rfl rfl hd _ r
/- leaving -/
theorem Runs.retI {v : Int32} (d : DAt M pc .ireturn 1 q) (hret : M.2.2.2.1 = some .int) (hk : k ≤ M.2.2.2.2.cells ∧ n ≤ M.2.2.2.2.slots) (hQ : Q (some (.int v)) G) : Runs C M k n pc P (.int v :: S) G Q := by
  intro hw p e s m args below meth c T locs L hx hby hml hr0 hnm hown hZ hf hsz X hR hF
  exact ⟨T, locs, k, n, _, G, X, hk.1, hk.2, hR, hF, hQ, (fun u => by rw [hret] at u; cases u), fun fs hr => Jvm.RoadKit.retI X hx (hr0.trans hret) (hb hby d.1) hr⟩
theorem Runs.retZ {v : Int32} (d : DAt M pc .ireturn 1 q) (hret : M.2.2.2.1 = some .boolean) (hk : k ≤ M.2.2.2.2.cells ∧ n ≤ M.2.2.2.2.slots) {y : Int32} (hy : nar .boolean v = y) (hQ : Q (some (.int y)) G) : Runs C M k n pc P (.int v :: S) G Q := by
  subst hy
  intro hw p e s m args below meth c T locs L hx hby hml hr0 hnm hown hZ hf hsz X hR hF
  exact ⟨T, locs, k, n, _, G, X, hk.1, hk.2, hR, hF, hQ, (fun u => by rw [hret] at u; cases u), fun fs hr => retN X hx (t := .boolean) (hr0.trans hret) (by simp) (hb hby d.1) hr⟩
theorem Runs.retJ {v : Int64} (d : DAt M pc .lreturn 1 q) (hret : M.2.2.2.1 = some .long) (hk : k ≤ M.2.2.2.2.cells ∧ n ≤ M.2.2.2.2.slots) (hQ : Q (some (.long v)) G) : Runs C M k n pc P (.long v :: []) G Q := by
  intro hw p e s m args below meth c T locs L hx hby hml hr0 hnm hown hZ hf hsz X hR hF
  exact ⟨T, locs, k, n, _, G, X, hk.1, hk.2, hR, hF, hQ, (fun u => by rw [hret] at u; cases u), fun fs hr => X.lreturnOut hx (hr0.trans hret) (hb hby d.1) hr⟩
theorem Runs.retV (d : DAt M pc .return_ 1 q) (hret : M.2.2.2.1 = none) (hk : k ≤ M.2.2.2.2.cells ∧ n ≤ M.2.2.2.2.slots) (hQ : Q none G) : Runs C M k n pc P [] G Q := by
  intro hw p e s m args below meth c T locs L hx hby hml hr0 hnm hown hZ hf hsz X hR hF
  exact ⟨T, locs, k, n, _, G, X, hk.1, hk.2, hR, hF, hQ, (fun _ => rfl), fun fs hr => X.returnOut hx (hr0.trans hret) (hb hby d.1) hr⟩
/- a new object, and the arrays that its constructor makes -/
theorem Runs.newK (d : DAt M pc (.new idx) 3 q) (w : Jvm.Cond.classLink M.1.cls idx K.1 ∈ tables_1) (hc : k + 1 ≤ M.2.2.2.2.cells ∧ n + kN ≤ M.2.2.2.2.slots) {k' n' : Nat} (hk' : k + 1 = k') (hn' : n + kN = n') {H : List (Nat × Nat × Rec)} (hd : ∀ x ∈ H, x.1 + x.2.1 < top) (h : Runs C M k' n' q P (.ref top :: S) (top + 1, (top, 0, zrec) :: H) Q) : Runs C M k n pc P S (top, H) Q := by
  subst hk' hn'
  intro hw p e s m args below meth c T locs L hx hby hml hr0 hnm hown hZ hf hsz X hR hF
  have hqq := d.2
  subst hqq
  obtain ⟨T2, X2, s2, E2, A2, D2, st2⟩ := new1 X hx hZ hown (hw _ w) (hw _ kI) (hw _ kZ) (g := mkF m pc L S) rfl (hb hby d.1) hc.1 hc.2
  have hs : T.heap.size = top := hR.1
  rw [hs] at A2 D2 st2 s2
  have hR2 : Rep C.2.1 C.2.2.1 T2.heap (top + 1, (top, 0, zrec) :: H) := by
    refine ⟨s2, hR.2.1.ext E2, fun x hx' => ?_, ?_⟩
    · rcases List.mem_cons.mp hx' with rfl | hx'
      · refine ⟨?_, by simp, A2, fun k nd hk => ?_, fun k t hk hq => by simp at hq, fun k t hk hq => ?_⟩
        · have := hR.2.1.2.1; rw [hR.2.1.1] at this; simp only; omega
        · rcases (All.mem kS (List.mem_of_getElem? hk)).2 with e | e
          · have := D2 (laidS hw hk) (ty := .int) (by rw [e]; decide); exact this
          · have := D2 (laidS hw hk) (ty := .boolean) (by rw [e]; decide); exact this
        · have := D2 (laidA hw hk) (pfA hk); exact this
      · obtain ⟨p1, p2, p3⟩ := hR.2.2.1 x hx'
        exact ⟨p1, by simp only at p2 ⊢; omega, p3.ext E2⟩
    · exact List.pairwise_cons.mpr ⟨fun y hy => Or.inr (hd y hy), hR.2.2.2⟩
  obtain ⟨T', locs', k', n', r, G', g1, g2, g3, g4, g5, g6, g7, g8⟩ := h hw p e s m args below meth c T2 _ L hx hby hml hr0 hnm hown hZ hf hsz X2 hR2 hF
  exact ⟨T', locs', k', n', r, G', g1, g2, g3, g4, g5, g6, g7, fun fs hr => st2 _ (g8 fs hr)⟩
/-- newarray and the putfield behind it: the next array of an object that is being made -/
theorem Runs.newArr {aty : ArrayType} {ty : FieldType} {len : Int32} {q1 : Nat} (d : DAt M pc (.newarray aty) 2 q1) (d' : DAt M q1 (.putfield idx) 3 q) (hk : K.2.2[j]? = some (nm, ty, len)) (w : Jvm.Cond.fieldLink M.1.cls idx K.1 nm (aD ty) ∈ tables_1) (ht : newarray.typeOf aty = ty) (wa : Jvm.Cond.arrayClass ty ∈ tables_1) (hm : Mine M nm (aD ty))
    (htop : top = a + 1 + j) (hlen : ¬ len < 0 ∧ len.toNatClampNeg * 8 ≤ 536870912) (hc : k + 1 ≤ M.2.2.2.2.cells ∧ n + len.toNatClampNeg ≤ M.2.2.2.2.slots) (hz : (∀ i, ob.2.1 j i = 0) ∧ (∀ i, ob.2.2 j i = 0)) {j' top' k' n' : Nat} (hj' : j + 1 = j') (ht' : top + 1 = top') (hk' : k + 1 = k') (hn' : n + len.toNatClampNeg = n')
    (h : Runs C M k' n' q P S (top', (a, j', ob) :: H) Q) : Runs C M k n pc P (.int len :: .ref a :: S) (top, (a, j, ob) :: H) Q := by
  subst hj' ht' hk' hn'
  intro hw p e s m args below meth c T locs L hx hby hml hr0 hnm hown hZ hf hsz X hR hF
  have hqq := d.2
  have hqq' := d'.2
  subst hqq hqq' ht
  obtain ⟨T1, cA, X1, s1, E1, A1, st1⟩ := newArr1 X hx hZ (hw _ wa) (g := mkF m pc L (.int len :: .ref a :: S)) rfl (hb hby d.1) rfl hlen.1 hlen.2 hc.1 hc.2
  have hs : T.heap.size = top := hR.1
  rw [hs] at A1 st1 s1
  have O1 := hR.objs.2.2.ext E1
  obtain ⟨T2, h2, X2, e2, W2, st2⟩ := putF X1 hx hZ hown (host := "") (Or.inl (hw _ w)) Via.refl rfl (O1.2.2.2 j _ hk (Nat.le_refl _)) O1.1 (lw_of hw ((All.mem kA (List.mem_of_getElem? hk)).1) (hm.imp id (fun u => ⟨u.1, hnm.trans u.2⟩))) (hw _ kI) (ty := .array (newarray.typeOf aty)) (pfA hk) rfl rfl (g := mkF m (pc + 2) L (.ref top :: .ref a :: S)) rfl rfl (hb hby d'.1)
  have hts : (newarray.typeOf aty = .int ∨ newarray.typeOf aty = .boolean ∨ newarray.typeOf aty = .long) := (All.mem kA (List.mem_of_getElem? hk)).2.1
  have hA := arr_new A1 hts hz
  have hR2 : Rep C.2.1 C.2.2.1 T2.heap (top + 1, (a, j + 1, ob) :: H) := by rw [e2]; exact hR.addA hw E1 s1 htop hk hA W2
  obtain ⟨T', locs', k', n', r, G', g1, g2, g3, g4, g5, g6, g7, g8⟩ := h hw p e s m args below meth c T2 _ L hx hby hml hr0 hnm hown hZ hf hsz X2 hR2 (Fr.snoc X2 hF hR.objs.1)
  exact ⟨T', locs', k', n', r, G', g1, g2, g3, g4, g5, g6, g7, fun fs hr => st1 _ (st2 _ (g8 fs hr))⟩
theorem Runs.initO {W : Nat} (d : DAt M pc (.invokespecial idx) 3 q) (w1 : Jvm.Cond.methodLink M.1.cls idx Lib.objectInit ∈ tables_1) (w2 : Jvm.Cond.instanceMethod Lib.objectInit ∈ tables_1) (w3 : Jvm.Cond.code Lib.objectInit ⟨#[0xb1]⟩ 1 none ∈ tables_1) (hW : (S.map fun v => v.category).sum = W) (hc : 1 ≤ M.2.2.2.2.frames ∧ W + 12 ≤ M.2.2.2.2.locals) (h : Runs C M k n q P S G Q) : Runs C M k n pc P (.ref a :: S) G Q := by
  intro hw p e s m args below meth c T locs L hx hby hml hr0 hnm hown hZ hf hsz X hR hF
  have hqq := d.2
  subst hqq
  obtain ⟨T1, X1, e1, st1⟩ := Jvm.RoadKit.initO X hx hZ hown (hw _ w1) (hw _ w2) (hw _ w3) rfl (g := mkF m pc L (.ref a :: S)) rfl (by rw [hml]; exact hsz) rfl (hb hby d.1) hc.1 (W := W) (by show 2 * 0 + _ ≤ _; omega) hc.2
  obtain ⟨T', locs', k', n', r, G', g1, g2, g3, g4, g5, g6, g7, g8⟩ := h hw p e s m args below meth c T1 _ L hx hby hml hr0 hnm hown hZ hf hsz X1 (by rw [e1]; exact hR) hF
  exact ⟨T', locs', k', n', r, G', g1, g2, g3, g4, g5, g6, g7, fun fs hr => st1 _ (g8 fs hr)⟩
end Heap
/- a body's contract, and the calls that are paid by one -/
def Pays (C : Ctx) (N : Bdy) (as : List Value) (G : AH) (Q : Option Value → AH → Prop) : Prop :=
  Ok C → ∀ h0 : Heap, Rep C.2.1 C.2.2.1 h0 G → ∀ ws : List Jvm.Cond, MetFree C.1 N.1 (head1 (Jvm.Cond.code N.1 N.2.1 N.2.2.1 N.2.2.2.1 :: ws) N.2.2.2.2) (fun a U => a = as.toArray ∧ C.2.1.Warmed39 U.vm ∧ U.heap = h0) (fun _ _ _ _ _ => True)
    (fun _ U o U' => ∃ v L, o = .returned v ∧ (Fr C.2.2.1 L ∧ ∃ G', Rep C.2.1 C.2.2.1 U'.heap G' ∧ Q v G') ∧ FrameEnd U o U' L N.2.2.2.2.cells N.2.2.2.2.slots)
def lay : List Value → List Slot
  | [] => []
  | v :: l => if v.category = 2 then .val v :: .second :: lay l else .val v :: lay l
theorem lay_foldl (l : List Value) : ∀ acc : Array Slot, (l.foldl (fun acc v => if v.category = 2 then (acc.push (.val v)).push .second else acc.push (.val v)) acc).toList = acc.toList ++ lay l := by
  induction l with
  | nil => intro acc; simp [lay]
  | cons v l ih =>
    intro acc
    rw [List.foldl_cons, ih]
    by_cases h : v.category = 2 <;> simp [lay, h]
theorem args_lay (as : List Value) (ml : Nat) : argsToLocals as.toArray ml = (lay as ++ List.replicate (ml - (lay as).length) Slot.unset).toArray := by
  have h := lay_foldl as #[]
  apply Array.ext'
  simp only [argsToLocals, Array.toList_append, List.toList_toArray] at *
  rw [show (as.toArray.foldl (init := #[]) fun acc v => if v.category = 2 then (acc.push (Slot.val v)).push .second else acc.push (.val v)).toList = lay as by simpa using h]
  congr 1
  rw [← Array.length_toList, show (as.toArray.foldl (init := #[]) fun acc v => if v.category = 2 then (acc.push (Slot.val v)).push .second else acc.push (.val v)).toList = lay as by simpa using h]
  simp
def WFL (l : List Slot) : Prop := (∀ i : Nat, l[i]? = some .second → ∃ (j : Nat) (v : Value), i = j + 1 ∧ l[j]? = some (.val v) ∧ v.category = 2) ∧ (∀ (i : Nat) (v : Value), l[i]? = some (.val v) → v.category = 2 → l[i + 1]? = some .second)
theorem WFL.unset (n : Nat) : WFL (List.replicate n Slot.unset) := by
  refine ⟨fun i h => ?_, fun i v h => ?_⟩ <;> (rw [List.getElem?_replicate] at h; split at h <;> cases h)
theorem WFL.one {l : List Slot} {v : Value} (h : WFL l) (hv : v.category ≠ 2) : WFL (.val v :: l) := by
  refine ⟨fun i hi => ?_, fun i w hi hw => ?_⟩
  · cases i with
    | zero => simp at hi
    | succ i =>
      obtain ⟨j, w, e1, e2, e3⟩ := h.1 i (by simpa using hi)
      exact ⟨j + 1, w, by omega, by simpa using e2, e3⟩
  · cases i with
    | zero => simp at hi; subst hi; exact absurd hw hv
    | succ i => have := h.2 i w (by simpa using hi) hw; simpa using this
theorem WFL.two {l : List Slot} {v : Value} (h : WFL l) (hv : v.category = 2) : WFL (.val v :: .second :: l) := by
  refine ⟨fun i hi => ?_, fun i w hi hw => ?_⟩
  · match i, hi with
    | 0, hi => simp at hi
    | 1, hi => exact ⟨0, v, rfl, by simp, hv⟩
    | i + 2, hi =>
      obtain ⟨j, w, e1, e2, e3⟩ := h.1 i (by simpa using hi)
      exact ⟨j + 2, w, by omega, by simpa using e2, e3⟩
  · match i, hi with
    | 0, hi => simp
    | 1, hi => simp at hi
    | i + 2, hi => have := h.2 i w (by simpa using hi) hw; simpa using this
theorem WFL.lay (as : List Value) (n : Nat) : WFL (lay as ++ List.replicate n Slot.unset) := by
  induction as with
  | nil => exact WFL.unset n
  | cons v l ih =>
    by_cases h : v.category = 2
    · simpa [Jvm.Pilot.@@N@@.lay, h] using ih.two h
    · simpa [Jvm.Pilot.@@N@@.lay, h] using ih.one h
def pforget : List Bool → Pat → Pat
  | [], _ => []
  | _, [] => []
  | true :: ms, x :: l => x :: pforget ms l
  | false :: ms, _ :: l => none :: pforget ms l
theorem pforget_get : ∀ (ms : List Bool) (P : Pat) (i : Nat) (s : Slot), pget (pforget ms P) i = some s → pget P i = some s
  | [], _, i, s, h => by simp [pforget, pget] at h
  | _ :: _, [], i, s, h => by simp [pforget, pget] at h
  | true :: ms, x :: l, 0, s, h => h
  | true :: ms, x :: l, i + 1, s, h => pforget_get ms l i s h
  | false :: ms, x :: l, 0, s, h => by simp [pforget, pget] at h
  | false :: ms, x :: l, i + 1, s, h => pforget_get ms l i s h
section Calls
variable {C : Ctx} {M N : Bdy} {k n pc q : Nat} {P P' : Pat} {S S' : List Value} {G G1 : AH} {Q : Option Value → AH → Prop} {top : Nat} {a : Nat} {qq j idx W : Nat} {ob : Rec} {H : List (Nat × Nat × Rec)} {as : List Value}
theorem Runs.forget (ms : List Bool) (hP : pforget ms P = P') (h : Runs C M k n pc P' S G Q) : Runs C M k n pc P S G Q := by
  intro hw p e s m args below meth c T locs L hx hby hml hret hnm hown hZ hf
  subst hP
  exact h hw p e s m args below meth c T locs L hx hby hml hret hnm hown hZ ⟨fun i s hi => hf.1 i s (pforget_get _ _ i s hi), hf.2⟩
theorem Pays.of (hpl : plainName N.1.cls = true) (hml : (lay as).length ≤ N.2.2.1) (x : Nat) (hP : (lay as).map some ++ List.replicate x none = P) (h : Runs C N 0 0 0 P [] G Q) : Pays C N as G Q := by
  intro hw h0 hR ws
  refine MetFree.of_bodySF (plainFor_of_name hpl) hisR ?_
  intro p e s m args below meth c s₁ Bd hml0 hp hK
  obtain ⟨rfl, hZ, hh⟩ := hp
  have X0 : Stand p C.1 e N.2.2.2.2 s m as.toArray below meth c s₁ [] 0 0 := Stand.of_body Bd
  have e0 : s₁.heap = h0 := by rw [← hh, Bd.state]; rfl
  obtain ⟨L, hL⟩ : ∃ L : Array Slot, L = (lay as ++ List.replicate (N.2.2.1 - (lay as).length) Slot.unset).toArray := ⟨_, rfl⟩
  have hfit : Fits P L := by
    subst hP hL
    refine ⟨fun i s hi => ?_, ?_⟩
    · rw [pget_eq] at hi
      cases hq : (lay as)[i]? with
      | none =>
        rw [List.getElem?_append_right (by simpa using hq), List.getElem?_replicate] at hi
        split at hi <;> simp at hi
      | some y =>
        have hlt := (List.getElem?_eq_some_iff.mp hq).1
        rw [List.getElem?_append_left (by simpa using hlt), List.getElem?_map, hq] at hi
        have this : y = s := by simpa using hi
        simp only [List.getElem?_toArray]
        rw [List.getElem?_append_left hlt, hq, this]
    · have := WFL.lay as (N.2.2.1 - (lay as).length)
      refine ⟨fun i hi => ?_, fun i v hi hv => ?_⟩
      · rw [List.getElem?_toArray] at hi
        obtain ⟨j, v, e1, e2, e3⟩ := this.1 i hi
        exact ⟨j, v, e1, by rw [List.getElem?_toArray]; exact e2, e3⟩
      · rw [List.getElem?_toArray] at hi ⊢
        exact this.2 i v hi hv
  obtain ⟨T', locs', k', n', r, G', g1, g2, g3, g4, g5, g6, g7, g8⟩ := h hw p e s m as.toArray below meth c s₁ [] L Bd.exec Bd.bytes hml0 Bd.returns (name_of_methodNamed Bd.named Bd.method).1 (findClass_of_methodNamed Bd.named) hZ hfit (by rw [hL]; simp; omega) X0 (by rw [e0]; exact hR) (Fr.nil _)
  obtain ⟨fs, hr, hrun, hended, hW, hsame⟩ := g1.leave (v := r) (fun u => g7 (by rw [← Bd.returns]; exact u))
  refine ⟨_, _, ?_, hrun, hended, _, _, rfl, ⟨g5, G', ?_, g6⟩, ⟨_, rfl⟩, hW, hsame.mono g2 g3⟩
  · have ef : entryFrame m as.toArray N.2.2.1 = mkF m 0 L [] := by
      rw [hL, ← args_lay]; rfl
    rw [ef]; exact g8 fs hr
  · exact g4
abbrev room_al (M N : Bdy) (W k n : Nat) : Prop := N.2.2.2.2.frames + 1 ≤ M.2.2.2.2.frames ∧ W + (N.2.2.1 + 11) + N.2.2.2.2.locals ≤ M.2.2.2.2.locals ∧ k + N.2.2.2.2.cells ≤ M.2.2.2.2.cells ∧ n + N.2.2.2.2.slots ≤ M.2.2.2.2.slots
abbrev room_ok (M N : Bdy) (W : Nat) : Prop := N.2.2.2.2.frames + 1 ≤ M.2.2.2.2.frames ∧ W + (N.2.2.1 + 11) + N.2.2.2.2.locals ≤ M.2.2.2.2.locals ∧ N.2.2.2.2.cells = 0 ∧ N.2.2.2.2.slots = 0
abbrev full_ok (M : Bdy) (k n : Nat) : Prop := k ≤ M.2.2.2.2.cells ∧ n ≤ M.2.2.2.2.slots
theorem room_ok.al (h : room_ok M N W) (f : full_ok M k n) : room_al M N W k n := ⟨h.1, h.2.1, by rw [h.2.2.1]; exact f.1, by rw [h.2.2.2]; exact f.2⟩
abbrev code_w (N : Bdy) : Prop := Jvm.Cond.code N.1 N.2.1 N.2.2.1 N.2.2.2.1 ∈ tables_1 ∧ Jvm.Cond.initialized N.1.cls ∈ tables_1 ∧ (N.1.cls ≠ "java/lang/invoke/MethodHandle" ∧ N.1.cls ≠ "java/lang/invoke/VarHandle")
def arity (N : Bdy) (na : Nat) : Prop := ∃ ps r, parseMethodDescriptor N.1.desc = some ⟨ps, r⟩ ∧ na = ps.length
theorem arity.len {na : Nat} (h : arity N na) (e : as.length = na) : ∀ sig, parseMethodDescriptor N.1.desc = some sig → as.length = sig.parameters.length := by
  obtain ⟨ps, r, h1, h2⟩ := h
  exact lenOf h1 (e.trans h2)
theorem after_call {v : Option Value} {p : Program} {e : Env} {s : State} {m : MethodId} {args : Array Value} {below : List Frame} {meth : Method} {c : Code} {T T0 : State} {locs : List Loc} {L : Array Slot} {QN : Option Value → AH → Prop} {Lc : List Loc}
    (hw : Ok C) (hx : p.tables.exec = Jvm.exec) (hby : c.code = M.2.1) (hml : c.maxLocals = M.2.2.1) (hret : meth.sig.returnType = M.2.2.2.1) (hnm : meth.name = M.1.name) (hown : s.vm.findClass M.1.cls = some m.cls) (hZ : C.2.1.Warmed39 s.vm) (hf : Fits P L) (hsz : L.size = M.2.2.1) (hF : Fr C.2.2.1 locs)
    (X : Stand p C.1 e M.2.2.2.2 s m args below meth c T (locs ++ Lc) (k + N.2.2.2.2.cells) (n + N.2.2.2.2.slots)) (hQ : Fr C.2.2.1 Lc ∧ ∃ G', Rep C.2.1 C.2.2.1 T.heap G' ∧ QN v G')
    (h : ∀ v G', QN v G' → Runs C M (k + N.2.2.2.2.cells) (n + N.2.2.2.2.slots) (pc + 3) P (v.toList ++ S') G' Q)
    (st : ∀ t, Steps p.tables e below (T.setTop (mkF m (pc + 3) L (v.toList ++ S'))) t → Steps p.tables e below (T0.setTop (mkF m pc L S)) t) :
    ∃ (T' : State) (locs' : List Loc) (k' n' : Nat) (r : Option Value) (G' : AH), Stand p C.1 e M.2.2.2.2 s m args below meth c T' locs' k' n' ∧ k' ≤ M.2.2.2.2.cells ∧ n' ≤ M.2.2.2.2.slots ∧ Rep C.2.1 C.2.2.1 T'.heap G' ∧ Fr C.2.2.1 locs' ∧ Q r G' ∧
      (M.2.2.2.1 = none → r = none) ∧
      ∀ fs : List Frame, (∀ (f : JFrame) (acts : List Action), f.method = m → f.locked = none → f.entered = [] → (doReturn e (T'.setTop f) acts r).1 = T'.setFrames fs) → Steps p.tables e below (T0.setTop (mkF m pc L S)) (T'.setFrames fs) := by
  obtain ⟨f1, G', f2, f3⟩ := hQ
  obtain ⟨T', locs', k', n', r, G'', g1, g2, g3, g4, g5, g6, g7, g8⟩ := h v G' f3 hw p e s m args below meth c T _ L hx hby hml hret hnm hown hZ hf hsz X f2 (Fr.app hF f1)
  exact ⟨T', locs', k', n', r, G'', g1, g2, g3, g4, g5, g6, g7, fun fs hr => st _ (g8 fs hr)⟩
theorem Runs.callS {QN : Option Value → AH → Prop} (d : DAt M pc (.invokestatic idx) 3 q) (wl : Jvm.Cond.methodLink M.1.cls idx N.1 ∈ tables_1) (wt : Jvm.Cond.static N.1 ∈ tables_1) (wc : code_w N) (ar : arity N as.length) (hr0 : room_ok M N W) (hfull : full_ok M k n) (hS : S = as.reverse ++ S') (hW : (S'.map fun v => v.category).sum = W)
    (hN : Pays C N as G QN) (h : ∀ v G', QN v G' → Runs C M k n q P (v.toList ++ S') G' Q) : Runs C M k n pc P S G Q := by
  intro hw p e s m args below meth c T locs L hx hby hml hret hnm hown hZ hf hsz X hR hF
  have hq := d.2
  subst hq hS
  have hr := hr0.al hfull
  obtain ⟨_, _, ⟨T1, L1, k1, n1⟩, -, X1, ⟨Lc, hQ, l1, y1, z1⟩, st⟩ := Jvm.LawKit.callS X hx (y := N.1) hown (mvT hZ (hw _ wl)) (mvT hZ (hw _ wt)) (mvT hZ (hw _ wc.2.1)) (mvT hZ (hw _ wc.1)) wc.2.2 (backOf (W := W) (Q := fun v h L => Fr C.2.2.1 L ∧ ∃ G', Rep C.2.1 C.2.2.1 h G' ∧ QN v G') (hN hw T.heap hR []) hZ (hw _ wc.1) (hw _ wc.2.1) hr.1 hr.2.1) (g := mkF m pc L (as.reverse ++ S')) rfl (by rw [hml]; exact hsz) (argsL := as) (rest := S') (ar.len rfl) rfl (by show 2 * 0 + _ ≤ _; omega) (hb hby d.1) (fun _ _ => ⟨rfl, rfl, hr.2.2.1, hr.2.2.2⟩)
  dsimp only [Pt.U, Pt.locs, Pt.cells, Pt.slots] at X1 l1 y1 z1 st hQ
  subst l1 y1 z1
  exact after_call hw hx hby hml hret hnm hown hZ hf hsz hF X1 hQ (by rw [hr0.2.2.1, hr0.2.2.2]; exact h) (fun t u => st t u)
theorem Runs.callV {QN : Option Value → AH → Prop} (d : DAt M pc (.invokevirtual idx) 3 q) (wl : Jvm.Cond.methodLink M.1.cls idx N.1 ∈ tables_1) (wd : Jvm.Cond.declares N.1 ∈ tables_1) (wi : Jvm.Cond.instanceMethod N.1 ∈ tables_1) (ws : Jvm.Cond.selects K.1 N.1 N.1 ∈ tables_1) (wc : code_w N) (ar : arity N as.length) (hr0 : room_ok M N W) (hfull : full_ok M k n) (hS : S = as.reverse ++ .ref a :: S') (hW : (S'.map fun v => v.category).sum = W)
    (hN : Pays C N (.ref a :: as) (top, (a, qq, ob) :: H) QN) (h : ∀ v G', QN v G' → Runs C M k n q P (v.toList ++ S') G' Q) : Runs C M k n pc P S (top, (a, qq, ob) :: H) Q := by
  intro hw p e s m args below meth c T locs L hx hby hml hret hnm hown hZ hf hsz X hR hF
  have hq := d.2
  subst hq hS
  have hr := hr0.al hfull
  obtain ⟨cB, kB, u1, -, u3⟩ := isOf hZ rfl hR.objs.2.2.1
  obtain ⟨_, _, ⟨T1, L1, k1, n1⟩, -, X1, ⟨Lc, hQ, l1, y1, z1⟩, st⟩ := X.virtualBack hx (y := N.1) (z := N.1) hown (mvT hZ (hw _ wl)) (mvT hZ (hw _ wd)) (notFace_of_selects (args := #[]) (mvT hZ (hw _ ws))) (mvT hZ (hw _ ws)) (mvT hZ (hw _ wi)) wc.2.2 (backOf (W := W) (Q := fun v h L => Fr C.2.2.1 L ∧ ∃ G', Rep C.2.1 C.2.2.1 h G' ∧ QN v G') (hN hw T.heap hR []) hZ (hw _ wc.1) (hw _ wc.2.1) hr.1 hr.2.1) u1 u3 (g := mkF m pc L (as.reverse ++ .ref a :: S')) rfl (by rw [hml]; exact hsz) (Steps.refl _) (argsL := as) (rest := S') (ar.len rfl) rfl (by show 2 * 0 + _ ≤ _; omega) (hb hby d.1) (fun _ _ => ⟨rfl, rfl, hr.2.2.1, hr.2.2.2⟩)
  dsimp only [Pt.U, Pt.locs, Pt.cells, Pt.slots] at X1 l1 y1 z1 st hQ
  subst l1 y1 z1
  exact after_call hw hx hby hml hret hnm hown hZ hf hsz hF X1 hQ (by rw [hr0.2.2.1, hr0.2.2.2]; exact h) (fun t u => st.trans u)
theorem Runs.callP {QN : Option Value → AH → Prop} (d : DAt M pc (.invokevirtual idx) 3 q) (wl : Jvm.Cond.methodLink M.1.cls idx N.1 ∈ tables_1) (wi : Jvm.Cond.instanceMethod N.1 ∈ tables_1) (wp : Jvm.Cond.privateMethod N.1 ∈ tables_1) (wK : N.1.cls = K.1) (wc : code_w N) (ar : arity N as.length) (hr0 : room_ok M N W) (hfull : full_ok M k n) (hS : S = as.reverse ++ .ref a :: S') (hW : (S'.map fun v => v.category).sum = W)
    (hN : Pays C N (.ref a :: as) (top, (a, qq, ob) :: H) QN) (h : ∀ v G', QN v G' → Runs C M k n q P (v.toList ++ S') G' Q) : Runs C M k n pc P S (top, (a, qq, ob) :: H) Q := by
  intro hw p e s m args below meth c T locs L hx hby hml hret hnm hown hZ hf hsz X hR hF
  have hq := d.2
  subst hq hS
  have hr := hr0.al hfull
  obtain ⟨cl, u1, u2⟩ := hR.objs.2.2.1.cell
  have hpr : s.PrivateAt N.1 := Cond.privateMethod_at (mvP hZ (hw _ wp) (args := #[]))
  obtain ⟨c2, k2, i1, i2, i3, i4, -⟩ := Cond.instantiable_spec (mvT (args := args) hZ (hw _ kI))
  have hsel : (Jvm.Cond.selects N.1.cls N.1 N.1).before args s = true := Stand.selects_self_of_private (by rw [wK]; exact i1) i2 (by simp at i4; exact i4.1) hpr (mvT hZ (hw _ wi)) wc.2.2
  obtain ⟨_, _, ⟨T1, L1, k1, n1⟩, -, X1, ⟨Lc, hQ, l1, y1, z1⟩, st⟩ := X.privateBack hx (y := N.1) hown (mvT hZ (hw _ wl)) (mvT hZ (hw _ wi)) hsel hpr (mvT hZ (hw _ wc.1)) wc.2.2 (backOf (W := W) (Q := fun v h L => Fr C.2.2.1 L ∧ ∃ G', Rep C.2.1 C.2.2.1 h G' ∧ QN v G') (hN hw T.heap hR []) hZ (hw _ wc.1) (hw _ wc.2.1) hr.1 hr.2.1) (g := mkF m pc L (as.reverse ++ .ref a :: S')) rfl (by rw [hml]; exact hsz) (Steps.refl _) (a := a) u1 u2 (argsL := as) (rest := S') (ar.len rfl) rfl (by show 2 * 0 + _ ≤ _; omega) (hb hby d.1) (fun _ _ => ⟨rfl, rfl, hr.2.2.1, hr.2.2.2⟩)
  dsimp only [Pt.U, Pt.locs, Pt.cells, Pt.slots] at X1 l1 y1 z1 st hQ
  subst l1 y1 z1
  exact after_call hw hx hby hml hret hnm hown hZ hf hsz hF X1 hQ (by rw [hr0.2.2.1, hr0.2.2.2]; exact h) (fun t u => st.trans u)
theorem Runs.callI {QN : Option Value → AH → Prop} (d : DAt M pc (.invokespecial idx) 3 q) (hi : N.1.name = "<init>") (hn : N.2.2.2.1 = none) (wl : Jvm.Cond.methodLink M.1.cls idx N.1 ∈ tables_1) (wi : Jvm.Cond.instanceMethod N.1 ∈ tables_1) (wc : code_w N) (ar : arity N as.length) (hr : room_al M N W k n) (hS : S = as.reverse ++ .ref a :: S') (hW : (S'.map fun v => v.category).sum = W) {k' n' : Nat} (hk' : k + N.2.2.2.2.cells = k') (hn' : n + N.2.2.2.2.slots = n')
    (hN : Pays C N (.ref a :: as) G QN) (h : ∀ v G', QN v G' → Runs C M k' n' q P (v.toList ++ S') G' Q) : Runs C M k n pc P S G Q := by
  intro hw p e s m args below meth c T locs L hx hby hml hret hnm hown hZ hf hsz X hR hF
  have hq := d.2
  subst hq hS hk' hn'
  have wc1 := hw _ wc.1
  obtain ⟨_, _, ⟨T1, L1, k1, n1⟩, -, X1, ⟨Lc, hQ, l1, y1, z1⟩, st⟩ := X.specialBack hx (y := N.1) hi hown (mvT hZ (hw _ wl)) (mvT hZ (hw _ wi)) (bytes := N.2.1) (maxL := N.2.2.1) (by have := mvT (args := args) hZ wc1; rw [hn] at this; exact this) wc.2.2 (backOf (W := W) (Q := fun v h L => Fr C.2.2.1 L ∧ ∃ G', Rep C.2.1 C.2.2.1 h G' ∧ QN v G') (hN hw T.heap hR []) hZ wc1 (hw _ wc.2.1) hr.1 hr.2.1) (g := mkF m pc L (as.reverse ++ .ref a :: S')) rfl (by rw [hml]; exact hsz) (Steps.refl _) (a := a) (argsL := as) (rest := S') (ar.len rfl) rfl (by show 2 * 0 + _ ≤ _; omega) (hb hby d.1) (fun _ _ => ⟨rfl, rfl, hr.2.2.1, hr.2.2.2⟩)
  dsimp only [Pt.U, Pt.locs, Pt.cells, Pt.slots] at X1 l1 y1 z1 st hQ
  subst l1 y1 z1
  exact after_call hw hx hby hml hret hnm hown hZ hf hsz hF X1 hQ h (fun t u => st.trans u)
/-- the plain form of a contract: one answer, one heap -/
abbrev Ans (r : Option Value) (G1 : AH) : Option Value → AH → Prop := fun v G' => v = r ∧ G' = G1
theorem ans1 {x : Value} {k n : Nat} (h : Runs C M k n pc P (x :: S) G1 Q) : ∀ v G', Ans (some x) G1 v G' → Runs C M k n pc P (v.toList ++ S) G' Q := by
  rintro v G' ⟨rfl, rfl⟩; exact h
theorem ans0 {k n : Nat} (h : Runs C M k n pc P S G1 Q) : ∀ v G', Ans none G1 v G' → Runs C M k n pc P (v.toList ++ S) G' Q := by
  rintro v G' ⟨rfl, rfl⟩; exact h
end Calls
theorem pnK : plainName "CausalStable" = true := by first | (simp [plainName, overriddenIn]; done) | decide +kernel
theorem pnL : plainName "CausalStableL5" = true := by first | (simp [plainName, overriddenIn]; done) | decide +kernel
theorem w0 : (Jvm.Cond.classLink "CausalStableL5" (7 : Nat) "CausalStable") ∈ tables_1 := mem1 0 rfl
theorem w3 : (Jvm.Cond.methodLink "CausalStableL5" (9 : Nat) ({ cls := "CausalStable", name := "<init>", desc := "(II)V" } : Jvm.MethodName)) ∈ tables_1 := mem1 3 rfl
theorem w4 : (Jvm.Cond.instanceMethod ({ cls := "CausalStable", name := "<init>", desc := "(II)V" } : Jvm.MethodName)) ∈ tables_1 := mem1 4 rfl
theorem w6 : (Jvm.Cond.methodLink "CausalStable" (1 : Nat) ({ cls := "java/lang/Object", name := "<init>", desc := "()V" } : Jvm.MethodName)) ∈ tables_1 := mem1 6 rfl
theorem w7 : (Jvm.Cond.instanceMethod ({ cls := "java/lang/Object", name := "<init>", desc := "()V" } : Jvm.MethodName)) ∈ tables_1 := mem1 7 rfl
theorem w8 : (Jvm.Cond.code ({ cls := "java/lang/Object", name := "<init>", desc := "()V" } : Jvm.MethodName) object_method_1_code (1 : Nat) (Option.none : Option Jvm.ClassFile.FieldType)) ∈ tables_1 := mem1 8 rfl
theorem w9 : (Jvm.Cond.arrayClass Jvm.ClassFile.FieldType.int) ∈ tables_1 := mem1 9 rfl
theorem w10 : (Jvm.Cond.fieldLink "CausalStable" (7 : Nat) "CausalStable" "sentCount" "[I") ∈ tables_1 := mem1 10 rfl
theorem w11 : (Jvm.Cond.lays "CausalStable" "CausalStable" "sentCount" "[I") ∈ tables_1 := mem1 11 rfl
theorem w12 : (Jvm.Cond.arrayClass Jvm.ClassFile.FieldType.boolean) ∈ tables_1 := mem1 12 rfl
theorem w13 : (Jvm.Cond.fieldLink "CausalStable" (13 : Nat) "CausalStable" "crashedFlag" "[Z") ∈ tables_1 := mem1 13 rfl
theorem w14 : (Jvm.Cond.lays "CausalStable" "CausalStable" "crashedFlag" "[Z") ∈ tables_1 := mem1 14 rfl
theorem w15 : (Jvm.Cond.fieldLink "CausalStable" (17 : Nat) "CausalStable" "del" "[I") ∈ tables_1 := mem1 15 rfl
theorem w16 : (Jvm.Cond.lays "CausalStable" "CausalStable" "del" "[I") ∈ tables_1 := mem1 16 rfl
theorem w17 : (Jvm.Cond.fieldLink "CausalStable" (20 : Nat) "CausalStable" "msgState" "[I") ∈ tables_1 := mem1 17 rfl
theorem w18 : (Jvm.Cond.lays "CausalStable" "CausalStable" "msgState" "[I") ∈ tables_1 := mem1 18 rfl
theorem w19 : (Jvm.Cond.fieldLink "CausalStable" (23 : Nat) "CausalStable" "stampArr" "[I") ∈ tables_1 := mem1 19 rfl
theorem w20 : (Jvm.Cond.lays "CausalStable" "CausalStable" "stampArr" "[I") ∈ tables_1 := mem1 20 rfl
theorem w21 : (Jvm.Cond.fieldLink "CausalStable" (26 : Nat) "CausalStable" "copyArr" "[I") ∈ tables_1 := mem1 21 rfl
theorem w22 : (Jvm.Cond.lays "CausalStable" "CausalStable" "copyArr" "[I") ∈ tables_1 := mem1 22 rfl
theorem w23 : (Jvm.Cond.fieldLink "CausalStable" (29 : Nat) "CausalStable" "known" "[I") ∈ tables_1 := mem1 23 rfl
theorem w24 : (Jvm.Cond.lays "CausalStable" "CausalStable" "known" "[I") ∈ tables_1 := mem1 24 rfl
theorem w25 : (Jvm.Cond.fieldLink "CausalStable" (32 : Nat) "CausalStable" "list" "[I") ∈ tables_1 := mem1 25 rfl
theorem w26 : (Jvm.Cond.lays "CausalStable" "CausalStable" "list" "[I") ∈ tables_1 := mem1 26 rfl
theorem w27 : (Jvm.Cond.fieldLink "CausalStable" (35 : Nat) "CausalStable" "listLen" "[I") ∈ tables_1 := mem1 27 rfl
theorem w28 : (Jvm.Cond.lays "CausalStable" "CausalStable" "listLen" "[I") ∈ tables_1 := mem1 28 rfl
theorem w29 : (Jvm.Cond.fieldLink "CausalStable" (38 : Nat) "CausalStable" "n" "I") ∈ tables_1 := mem1 29 rfl
theorem w30 : (Jvm.Cond.lays "CausalStable" "CausalStable" "n" "I") ∈ tables_1 := mem1 30 rfl
theorem w31 : (Jvm.Cond.fieldLink "CausalStable" (42 : Nat) "CausalStable" "cap" "I") ∈ tables_1 := mem1 31 rfl
theorem w32 : (Jvm.Cond.lays "CausalStable" "CausalStable" "cap" "I") ∈ tables_1 := mem1 32 rfl
theorem w33 : (Jvm.Cond.methodLink "CausalStableL5" (26 : Nat) ({ cls := "CausalStableL5", name := "step", desc := "(LCausalStable;IIIII)V" } : Jvm.MethodName)) ∈ tables_1 := mem1 33 rfl
theorem w34 : (Jvm.Cond.static ({ cls := "CausalStableL5", name := "step", desc := "(LCausalStable;IIIII)V" } : Jvm.MethodName)) ∈ tables_1 := mem1 34 rfl
theorem w37 : (Jvm.Cond.methodLink "CausalStableL5" (23 : Nat) ({ cls := "CausalStable", name := "drop", desc := "(III)I" } : Jvm.MethodName)) ∈ tables_1 := mem1 37 rfl
theorem w38 : (Jvm.Cond.declares ({ cls := "CausalStable", name := "drop", desc := "(III)I" } : Jvm.MethodName)) ∈ tables_1 := mem1 38 rfl
theorem w39 : (Jvm.Cond.instanceMethod ({ cls := "CausalStable", name := "drop", desc := "(III)I" } : Jvm.MethodName)) ∈ tables_1 := mem1 39 rfl
theorem w40 : (Jvm.Cond.selects "CausalStable" ({ cls := "CausalStable", name := "drop", desc := "(III)I" } : Jvm.MethodName) ({ cls := "CausalStable", name := "drop", desc := "(III)I" } : Jvm.MethodName)) ∈ tables_1 := mem1 40 rfl
theorem w42 : (Jvm.Cond.methodLink "CausalStable" (52 : Nat) ({ cls := "CausalStable", name := "exists", desc := "(II)Z" } : Jvm.MethodName)) ∈ tables_1 := mem1 42 rfl
theorem w43 : (Jvm.Cond.instanceMethod ({ cls := "CausalStable", name := "exists", desc := "(II)Z" } : Jvm.MethodName)) ∈ tables_1 := mem1 43 rfl
theorem w44 : (Jvm.Cond.privateMethod ({ cls := "CausalStable", name := "exists", desc := "(II)Z" } : Jvm.MethodName)) ∈ tables_1 := mem1 44 rfl
theorem w46 : (Jvm.Cond.methodLink "CausalStableL5" (36 : Nat) ({ cls := "CausalStable", name := "broadcast", desc := "(I)I" } : Jvm.MethodName)) ∈ tables_1 := mem1 46 rfl
theorem w47 : (Jvm.Cond.declares ({ cls := "CausalStable", name := "broadcast", desc := "(I)I" } : Jvm.MethodName)) ∈ tables_1 := mem1 47 rfl
theorem w48 : (Jvm.Cond.instanceMethod ({ cls := "CausalStable", name := "broadcast", desc := "(I)I" } : Jvm.MethodName)) ∈ tables_1 := mem1 48 rfl
theorem w49 : (Jvm.Cond.selects "CausalStable" ({ cls := "CausalStable", name := "broadcast", desc := "(I)I" } : Jvm.MethodName) ({ cls := "CausalStable", name := "broadcast", desc := "(I)I" } : Jvm.MethodName)) ∈ tables_1 := mem1 49 rfl
theorem w51 : (Jvm.Cond.methodLink "CausalStable" (68 : Nat) ({ cls := "CausalStable", name := "validProc", desc := "(I)Z" } : Jvm.MethodName)) ∈ tables_1 := mem1 51 rfl
theorem w52 : (Jvm.Cond.instanceMethod ({ cls := "CausalStable", name := "validProc", desc := "(I)Z" } : Jvm.MethodName)) ∈ tables_1 := mem1 52 rfl
theorem w53 : (Jvm.Cond.privateMethod ({ cls := "CausalStable", name := "validProc", desc := "(I)Z" } : Jvm.MethodName)) ∈ tables_1 := mem1 53 rfl
theorem w55 : (Jvm.Cond.methodLink "CausalStable" (56 : Nat) ({ cls := "CausalStable", name := "msgIndex", desc := "(II)I" } : Jvm.MethodName)) ∈ tables_1 := mem1 55 rfl
theorem w56 : (Jvm.Cond.instanceMethod ({ cls := "CausalStable", name := "msgIndex", desc := "(II)I" } : Jvm.MethodName)) ∈ tables_1 := mem1 56 rfl
theorem w57 : (Jvm.Cond.privateMethod ({ cls := "CausalStable", name := "msgIndex", desc := "(II)I" } : Jvm.MethodName)) ∈ tables_1 := mem1 57 rfl
theorem w59 : (Jvm.Cond.methodLink "CausalStable" (64 : Nat) ({ cls := "CausalStable", name := "deliverAt", desc := "(III)V" } : Jvm.MethodName)) ∈ tables_1 := mem1 59 rfl
theorem w60 : (Jvm.Cond.instanceMethod ({ cls := "CausalStable", name := "deliverAt", desc := "(III)V" } : Jvm.MethodName)) ∈ tables_1 := mem1 60 rfl
theorem w61 : (Jvm.Cond.privateMethod ({ cls := "CausalStable", name := "deliverAt", desc := "(III)V" } : Jvm.MethodName)) ∈ tables_1 := mem1 61 rfl
theorem w63 : (Jvm.Cond.methodLink "CausalStable" (45 : Nat) ({ cls := "CausalStable", name := "stateIndex", desc := "(III)I" } : Jvm.MethodName)) ∈ tables_1 := mem1 63 rfl
theorem w64 : (Jvm.Cond.instanceMethod ({ cls := "CausalStable", name := "stateIndex", desc := "(III)I" } : Jvm.MethodName)) ∈ tables_1 := mem1 64 rfl
theorem w65 : (Jvm.Cond.privateMethod ({ cls := "CausalStable", name := "stateIndex", desc := "(III)I" } : Jvm.MethodName)) ∈ tables_1 := mem1 65 rfl
theorem w67 : (Jvm.Cond.methodLink "CausalStable" (49 : Nat) ({ cls := "CausalStable", name := "knownIndex", desc := "(III)I" } : Jvm.MethodName)) ∈ tables_1 := mem1 67 rfl
theorem w68 : (Jvm.Cond.instanceMethod ({ cls := "CausalStable", name := "knownIndex", desc := "(III)I" } : Jvm.MethodName)) ∈ tables_1 := mem1 68 rfl
theorem w69 : (Jvm.Cond.privateMethod ({ cls := "CausalStable", name := "knownIndex", desc := "(III)I" } : Jvm.MethodName)) ∈ tables_1 := mem1 69 rfl
theorem w71 : (Jvm.Cond.methodLink "CausalStableL5" (40 : Nat) ({ cls := "CausalStable", name := "duplicate", desc := "(III)I" } : Jvm.MethodName)) ∈ tables_1 := mem1 71 rfl
theorem w72 : (Jvm.Cond.declares ({ cls := "CausalStable", name := "duplicate", desc := "(III)I" } : Jvm.MethodName)) ∈ tables_1 := mem1 72 rfl
theorem w73 : (Jvm.Cond.instanceMethod ({ cls := "CausalStable", name := "duplicate", desc := "(III)I" } : Jvm.MethodName)) ∈ tables_1 := mem1 73 rfl
theorem w74 : (Jvm.Cond.selects "CausalStable" ({ cls := "CausalStable", name := "duplicate", desc := "(III)I" } : Jvm.MethodName) ({ cls := "CausalStable", name := "duplicate", desc := "(III)I" } : Jvm.MethodName)) ∈ tables_1 := mem1 74 rfl
theorem w76 : (Jvm.Cond.methodLink "CausalStableL5" (12 : Nat) ({ cls := "CausalStable", name := "receive", desc := "(III)I" } : Jvm.MethodName)) ∈ tables_1 := mem1 76 rfl
theorem w77 : (Jvm.Cond.declares ({ cls := "CausalStable", name := "receive", desc := "(III)I" } : Jvm.MethodName)) ∈ tables_1 := mem1 77 rfl
theorem w78 : (Jvm.Cond.instanceMethod ({ cls := "CausalStable", name := "receive", desc := "(III)I" } : Jvm.MethodName)) ∈ tables_1 := mem1 78 rfl
theorem w79 : (Jvm.Cond.selects "CausalStable" ({ cls := "CausalStable", name := "receive", desc := "(III)I" } : Jvm.MethodName) ({ cls := "CausalStable", name := "receive", desc := "(III)I" } : Jvm.MethodName)) ∈ tables_1 := mem1 79 rfl
theorem w81 : (Jvm.Cond.methodLink "CausalStable" (72 : Nat) ({ cls := "CausalStable", name := "copyIndex", desc := "(III)I" } : Jvm.MethodName)) ∈ tables_1 := mem1 81 rfl
theorem w82 : (Jvm.Cond.instanceMethod ({ cls := "CausalStable", name := "copyIndex", desc := "(III)I" } : Jvm.MethodName)) ∈ tables_1 := mem1 82 rfl
theorem w83 : (Jvm.Cond.privateMethod ({ cls := "CausalStable", name := "copyIndex", desc := "(III)I" } : Jvm.MethodName)) ∈ tables_1 := mem1 83 rfl
theorem w85 : (Jvm.Cond.methodLink "CausalStable" (75 : Nat) ({ cls := "CausalStable", name := "cascade", desc := "(I)I" } : Jvm.MethodName)) ∈ tables_1 := mem1 85 rfl
theorem w86 : (Jvm.Cond.instanceMethod ({ cls := "CausalStable", name := "cascade", desc := "(I)I" } : Jvm.MethodName)) ∈ tables_1 := mem1 86 rfl
theorem w87 : (Jvm.Cond.privateMethod ({ cls := "CausalStable", name := "cascade", desc := "(I)I" } : Jvm.MethodName)) ∈ tables_1 := mem1 87 rfl
theorem w89 : (Jvm.Cond.methodLink "CausalStable" (60 : Nat) ({ cls := "CausalStable", name := "isDeliverable", desc := "(III)Z" } : Jvm.MethodName)) ∈ tables_1 := mem1 89 rfl
theorem w90 : (Jvm.Cond.instanceMethod ({ cls := "CausalStable", name := "isDeliverable", desc := "(III)Z" } : Jvm.MethodName)) ∈ tables_1 := mem1 90 rfl
theorem w91 : (Jvm.Cond.privateMethod ({ cls := "CausalStable", name := "isDeliverable", desc := "(III)Z" } : Jvm.MethodName)) ∈ tables_1 := mem1 91 rfl
theorem w93 : (Jvm.Cond.methodLink "CausalStableL5" (16 : Nat) ({ cls := "CausalStable", name := "state", desc := "(III)I" } : Jvm.MethodName)) ∈ tables_1 := mem1 93 rfl
theorem w94 : (Jvm.Cond.declares ({ cls := "CausalStable", name := "state", desc := "(III)I" } : Jvm.MethodName)) ∈ tables_1 := mem1 94 rfl
theorem w95 : (Jvm.Cond.instanceMethod ({ cls := "CausalStable", name := "state", desc := "(III)I" } : Jvm.MethodName)) ∈ tables_1 := mem1 95 rfl
theorem w96 : (Jvm.Cond.selects "CausalStable" ({ cls := "CausalStable", name := "state", desc := "(III)I" } : Jvm.MethodName) ({ cls := "CausalStable", name := "state", desc := "(III)I" } : Jvm.MethodName)) ∈ tables_1 := mem1 96 rfl
theorem w98 : (Jvm.Cond.methodLink "CausalStableL5" (19 : Nat) ({ cls := "CausalStable", name := "isCrashed", desc := "(I)Z" } : Jvm.MethodName)) ∈ tables_1 := mem1 98 rfl
theorem w99 : (Jvm.Cond.declares ({ cls := "CausalStable", name := "isCrashed", desc := "(I)Z" } : Jvm.MethodName)) ∈ tables_1 := mem1 99 rfl
theorem w100 : (Jvm.Cond.instanceMethod ({ cls := "CausalStable", name := "isCrashed", desc := "(I)Z" } : Jvm.MethodName)) ∈ tables_1 := mem1 100 rfl
theorem w101 : (Jvm.Cond.selects "CausalStable" ({ cls := "CausalStable", name := "isCrashed", desc := "(I)Z" } : Jvm.MethodName) ({ cls := "CausalStable", name := "isCrashed", desc := "(I)Z" } : Jvm.MethodName)) ∈ tables_1 := mem1 101 rfl
theorem w103 : (Jvm.Cond.methodLink "CausalStableL5" (32 : Nat) ({ cls := "CausalStableL5", name := "same", desc := "(LCausalStable;LCausalStable;)Z" } : Jvm.MethodName)) ∈ tables_1 := mem1 103 rfl
theorem w104 : (Jvm.Cond.static ({ cls := "CausalStableL5", name := "same", desc := "(LCausalStable;LCausalStable;)Z" } : Jvm.MethodName)) ∈ tables_1 := mem1 104 rfl
theorem w106 : (Jvm.Cond.methodLink "CausalStableL5" (57 : Nat) ({ cls := "CausalStable", name := "sent", desc := "(I)I" } : Jvm.MethodName)) ∈ tables_1 := mem1 106 rfl
theorem w107 : (Jvm.Cond.declares ({ cls := "CausalStable", name := "sent", desc := "(I)I" } : Jvm.MethodName)) ∈ tables_1 := mem1 107 rfl
theorem w108 : (Jvm.Cond.instanceMethod ({ cls := "CausalStable", name := "sent", desc := "(I)I" } : Jvm.MethodName)) ∈ tables_1 := mem1 108 rfl
theorem w109 : (Jvm.Cond.selects "CausalStable" ({ cls := "CausalStable", name := "sent", desc := "(I)I" } : Jvm.MethodName) ({ cls := "CausalStable", name := "sent", desc := "(I)I" } : Jvm.MethodName)) ∈ tables_1 := mem1 109 rfl
theorem w111 : (Jvm.Cond.methodLink "CausalStableL5" (60 : Nat) ({ cls := "CausalStable", name := "deliveredAt", desc := "(II)I" } : Jvm.MethodName)) ∈ tables_1 := mem1 111 rfl
theorem w112 : (Jvm.Cond.declares ({ cls := "CausalStable", name := "deliveredAt", desc := "(II)I" } : Jvm.MethodName)) ∈ tables_1 := mem1 112 rfl
theorem w113 : (Jvm.Cond.instanceMethod ({ cls := "CausalStable", name := "deliveredAt", desc := "(II)I" } : Jvm.MethodName)) ∈ tables_1 := mem1 113 rfl
theorem w114 : (Jvm.Cond.selects "CausalStable" ({ cls := "CausalStable", name := "deliveredAt", desc := "(II)I" } : Jvm.MethodName) ({ cls := "CausalStable", name := "deliveredAt", desc := "(II)I" } : Jvm.MethodName)) ∈ tables_1 := mem1 114 rfl
theorem w116 : (Jvm.Cond.methodLink "CausalStableL5" (63 : Nat) ({ cls := "CausalStable", name := "delivered", desc := "(II)I" } : Jvm.MethodName)) ∈ tables_1 := mem1 116 rfl
theorem w117 : (Jvm.Cond.declares ({ cls := "CausalStable", name := "delivered", desc := "(II)I" } : Jvm.MethodName)) ∈ tables_1 := mem1 117 rfl
theorem w118 : (Jvm.Cond.instanceMethod ({ cls := "CausalStable", name := "delivered", desc := "(II)I" } : Jvm.MethodName)) ∈ tables_1 := mem1 118 rfl
theorem w119 : (Jvm.Cond.selects "CausalStable" ({ cls := "CausalStable", name := "delivered", desc := "(II)I" } : Jvm.MethodName) ({ cls := "CausalStable", name := "delivered", desc := "(II)I" } : Jvm.MethodName)) ∈ tables_1 := mem1 119 rfl
theorem w121 : (Jvm.Cond.methodLink "CausalStableL5" (66 : Nat) ({ cls := "CausalStable", name := "known", desc := "(III)I" } : Jvm.MethodName)) ∈ tables_1 := mem1 121 rfl
theorem w122 : (Jvm.Cond.declares ({ cls := "CausalStable", name := "known", desc := "(III)I" } : Jvm.MethodName)) ∈ tables_1 := mem1 122 rfl
theorem w123 : (Jvm.Cond.instanceMethod ({ cls := "CausalStable", name := "known", desc := "(III)I" } : Jvm.MethodName)) ∈ tables_1 := mem1 123 rfl
theorem w124 : (Jvm.Cond.selects "CausalStable" ({ cls := "CausalStable", name := "known", desc := "(III)I" } : Jvm.MethodName) ({ cls := "CausalStable", name := "known", desc := "(III)I" } : Jvm.MethodName)) ∈ tables_1 := mem1 124 rfl
theorem w126 : (Jvm.Cond.methodLink "CausalStableL5" (69 : Nat) ({ cls := "CausalStable", name := "copies", desc := "(III)I" } : Jvm.MethodName)) ∈ tables_1 := mem1 126 rfl
theorem w127 : (Jvm.Cond.declares ({ cls := "CausalStable", name := "copies", desc := "(III)I" } : Jvm.MethodName)) ∈ tables_1 := mem1 127 rfl
theorem w128 : (Jvm.Cond.instanceMethod ({ cls := "CausalStable", name := "copies", desc := "(III)I" } : Jvm.MethodName)) ∈ tables_1 := mem1 128 rfl
theorem w129 : (Jvm.Cond.selects "CausalStable" ({ cls := "CausalStable", name := "copies", desc := "(III)I" } : Jvm.MethodName) ({ cls := "CausalStable", name := "copies", desc := "(III)I" } : Jvm.MethodName)) ∈ tables_1 := mem1 129 rfl
theorem w131 : (Jvm.Cond.methodLink "CausalStableL5" (72 : Nat) ({ cls := "CausalStable", name := "stamp", desc := "(III)I" } : Jvm.MethodName)) ∈ tables_1 := mem1 131 rfl
theorem w132 : (Jvm.Cond.declares ({ cls := "CausalStable", name := "stamp", desc := "(III)I" } : Jvm.MethodName)) ∈ tables_1 := mem1 132 rfl
theorem w133 : (Jvm.Cond.instanceMethod ({ cls := "CausalStable", name := "stamp", desc := "(III)I" } : Jvm.MethodName)) ∈ tables_1 := mem1 133 rfl
theorem w134 : (Jvm.Cond.selects "CausalStable" ({ cls := "CausalStable", name := "stamp", desc := "(III)I" } : Jvm.MethodName) ({ cls := "CausalStable", name := "stamp", desc := "(III)I" } : Jvm.MethodName)) ∈ tables_1 := mem1 134 rfl
theorem w136 : (Jvm.Cond.methodLink "CausalStableL5" (51 : Nat) ({ cls := "CausalStable", name := "prune", desc := "(I)I" } : Jvm.MethodName)) ∈ tables_1 := mem1 136 rfl
theorem w137 : (Jvm.Cond.declares ({ cls := "CausalStable", name := "prune", desc := "(I)I" } : Jvm.MethodName)) ∈ tables_1 := mem1 137 rfl
theorem w138 : (Jvm.Cond.instanceMethod ({ cls := "CausalStable", name := "prune", desc := "(I)I" } : Jvm.MethodName)) ∈ tables_1 := mem1 138 rfl
theorem w139 : (Jvm.Cond.selects "CausalStable" ({ cls := "CausalStable", name := "prune", desc := "(I)I" } : Jvm.MethodName) ({ cls := "CausalStable", name := "prune", desc := "(I)I" } : Jvm.MethodName)) ∈ tables_1 := mem1 139 rfl
theorem w141 : (Jvm.Cond.methodLink "CausalStableL5" (43 : Nat) ({ cls := "CausalStable", name := "retransmit", desc := "(IIII)I" } : Jvm.MethodName)) ∈ tables_1 := mem1 141 rfl
theorem w142 : (Jvm.Cond.declares ({ cls := "CausalStable", name := "retransmit", desc := "(IIII)I" } : Jvm.MethodName)) ∈ tables_1 := mem1 142 rfl
theorem w143 : (Jvm.Cond.instanceMethod ({ cls := "CausalStable", name := "retransmit", desc := "(IIII)I" } : Jvm.MethodName)) ∈ tables_1 := mem1 143 rfl
theorem w144 : (Jvm.Cond.selects "CausalStable" ({ cls := "CausalStable", name := "retransmit", desc := "(IIII)I" } : Jvm.MethodName) ({ cls := "CausalStable", name := "retransmit", desc := "(IIII)I" } : Jvm.MethodName)) ∈ tables_1 := mem1 144 rfl
theorem w146 : (Jvm.Cond.methodLink "CausalStableL5" (54 : Nat) ({ cls := "CausalStable", name := "crash", desc := "(I)I" } : Jvm.MethodName)) ∈ tables_1 := mem1 146 rfl
theorem w147 : (Jvm.Cond.declares ({ cls := "CausalStable", name := "crash", desc := "(I)I" } : Jvm.MethodName)) ∈ tables_1 := mem1 147 rfl
theorem w148 : (Jvm.Cond.instanceMethod ({ cls := "CausalStable", name := "crash", desc := "(I)I" } : Jvm.MethodName)) ∈ tables_1 := mem1 148 rfl
theorem w149 : (Jvm.Cond.selects "CausalStable" ({ cls := "CausalStable", name := "crash", desc := "(I)I" } : Jvm.MethodName) ({ cls := "CausalStable", name := "crash", desc := "(I)I" } : Jvm.MethodName)) ∈ tables_1 := mem1 149 rfl
theorem w151 : (Jvm.Cond.methodLink "CausalStableL5" (47 : Nat) ({ cls := "CausalStable", name := "gossip", desc := "(II)I" } : Jvm.MethodName)) ∈ tables_1 := mem1 151 rfl
theorem w152 : (Jvm.Cond.declares ({ cls := "CausalStable", name := "gossip", desc := "(II)I" } : Jvm.MethodName)) ∈ tables_1 := mem1 152 rfl
theorem w153 : (Jvm.Cond.instanceMethod ({ cls := "CausalStable", name := "gossip", desc := "(II)I" } : Jvm.MethodName)) ∈ tables_1 := mem1 153 rfl
theorem w154 : (Jvm.Cond.selects "CausalStable" ({ cls := "CausalStable", name := "gossip", desc := "(II)I" } : Jvm.MethodName) ({ cls := "CausalStable", name := "gossip", desc := "(II)I" } : Jvm.MethodName)) ∈ tables_1 := mem1 154 rfl
theorem w156 : (Jvm.Cond.methodLink "CausalStable" (82 : Nat) ({ cls := "CausalStable", name := "othersAllCrashed", desc := "(I)Z" } : Jvm.MethodName)) ∈ tables_1 := mem1 156 rfl
theorem w157 : (Jvm.Cond.instanceMethod ({ cls := "CausalStable", name := "othersAllCrashed", desc := "(I)Z" } : Jvm.MethodName)) ∈ tables_1 := mem1 157 rfl
theorem w158 : (Jvm.Cond.privateMethod ({ cls := "CausalStable", name := "othersAllCrashed", desc := "(I)Z" } : Jvm.MethodName)) ∈ tables_1 := mem1 158 rfl
theorem w160 : (Jvm.Cond.methodLink "CausalStable" (79 : Nat) ({ cls := "CausalStable", name := "isStable", desc := "(III)Z" } : Jvm.MethodName)) ∈ tables_1 := mem1 160 rfl
theorem w161 : (Jvm.Cond.instanceMethod ({ cls := "CausalStable", name := "isStable", desc := "(III)Z" } : Jvm.MethodName)) ∈ tables_1 := mem1 161 rfl
theorem w162 : (Jvm.Cond.privateMethod ({ cls := "CausalStable", name := "isStable", desc := "(III)Z" } : Jvm.MethodName)) ∈ tables_1 := mem1 162 rfl
theorem fS_0 : K.2.1[0]? = some ("n", "I") := rfl
theorem fS_1 : K.2.1[1]? = some ("cap", "I") := rfl
theorem fA_0 : K.2.2[0]? = some ("sentCount", .int, (8 : Int32)) := rfl
theorem fA_1 : K.2.2[1]? = some ("crashedFlag", .boolean, (8 : Int32)) := rfl
theorem fA_2 : K.2.2[2]? = some ("del", .int, (64 : Int32)) := rfl
theorem fA_3 : K.2.2[3]? = some ("msgState", .int, (512 : Int32)) := rfl
theorem fA_4 : K.2.2[4]? = some ("stampArr", .int, (512 : Int32)) := rfl
theorem fA_5 : K.2.2[5]? = some ("copyArr", .int, (512 : Int32)) := rfl
theorem fA_6 : K.2.2[6]? = some ("known", .int, (512 : Int32)) := rfl
theorem fA_7 : K.2.2[7]? = some ("list", .int, (512 : Int32)) := rfl
theorem fA_8 : K.2.2[8]? = some ("listLen", .int, (8 : Int32)) := rfl
theorem cb_m7 : (Int8.ofInt (-7)).toInt32 = (-7 : Int32) := by decide
theorem cb_m6 : (Int8.ofInt (-6)).toInt32 = (-6 : Int32) := by decide
theorem cb_m5 : (Int8.ofInt (-5)).toInt32 = (-5 : Int32) := by decide
theorem cb_m4 : (Int8.ofInt (-4)).toInt32 = (-4 : Int32) := by decide
theorem cb_m3 : (Int8.ofInt (-3)).toInt32 = (-3 : Int32) := by decide
theorem cb_m2 : (Int8.ofInt (-2)).toInt32 = (-2 : Int32) := by decide
theorem cb_6 : (Int8.ofInt 6).toInt32 = (6 : Int32) := by decide
theorem cb_7 : (Int8.ofInt 7).toInt32 = (7 : Int32) := by decide
theorem cb_8 : (Int8.ofInt 8).toInt32 = (8 : Int32) := by decide
theorem cb_16 : (Int8.ofInt 16).toInt32 = (16 : Int32) := by decide
theorem cb_64 : (Int8.ofInt 64).toInt32 = (64 : Int32) := by decide
theorem cb_65 : (Int8.ofInt 65).toInt32 = (65 : Int32) := by decide
theorem ci_m1 : Int32.ofInt (-1) = (-1 : Int32) := by decide
theorem ci_0 : Int32.ofInt 0 = (0 : Int32) := by decide
theorem ci_1 : Int32.ofInt 1 = (1 : Int32) := by decide
theorem ci_2 : Int32.ofInt 2 = (2 : Int32) := by decide
theorem ci_3 : Int32.ofInt 3 = (3 : Int32) := by decide
theorem ci_4 : Int32.ofInt 4 = (4 : Int32) := by decide
theorem ci_5 : Int32.ofInt 5 = (5 : Int32) := by decide
theorem cs_512 : (Int16.ofInt 512).toInt32 = (512 : Int32) := by decide
def B1 : Bdy := ((⟨"CausalStable", "<init>", "(II)V"⟩ : MethodName), prog_1_method_1_code, 5, none, ({ frames := 1, cells := 9, slots := 2648, locals := 12 } : Room))
theorem d1_0 : DAt B1 0 (.aload_n 0) 1 1 := ⟨by decide +kernel, rfl⟩
theorem d1_1 : DAt B1 1 (.invokespecial 1) 3 4 := ⟨by decide +kernel, rfl⟩
theorem d1_4 : DAt B1 4 (.aload_n 0) 1 5 := ⟨by decide +kernel, rfl⟩
theorem d1_5 : DAt B1 5 (.bipush 8) 2 7 := ⟨by decide +kernel, rfl⟩
theorem d1_7 : DAt B1 7 (.newarray .int) 2 9 := ⟨by decide +kernel, rfl⟩
theorem d1_9 : DAt B1 9 (.putfield 7) 3 12 := ⟨by decide +kernel, rfl⟩
theorem d1_12 : DAt B1 12 (.aload_n 0) 1 13 := ⟨by decide +kernel, rfl⟩
theorem d1_13 : DAt B1 13 (.bipush 8) 2 15 := ⟨by decide +kernel, rfl⟩
theorem d1_15 : DAt B1 15 (.newarray .boolean) 2 17 := ⟨by decide +kernel, rfl⟩
theorem d1_17 : DAt B1 17 (.putfield 13) 3 20 := ⟨by decide +kernel, rfl⟩
theorem d1_20 : DAt B1 20 (.aload_n 0) 1 21 := ⟨by decide +kernel, rfl⟩
theorem d1_21 : DAt B1 21 (.bipush 64) 2 23 := ⟨by decide +kernel, rfl⟩
theorem d1_23 : DAt B1 23 (.newarray .int) 2 25 := ⟨by decide +kernel, rfl⟩
theorem d1_25 : DAt B1 25 (.putfield 17) 3 28 := ⟨by decide +kernel, rfl⟩
theorem d1_28 : DAt B1 28 (.aload_n 0) 1 29 := ⟨by decide +kernel, rfl⟩
theorem d1_29 : DAt B1 29 (.sipush 512) 3 32 := ⟨by decide +kernel, rfl⟩
theorem d1_32 : DAt B1 32 (.newarray .int) 2 34 := ⟨by decide +kernel, rfl⟩
theorem d1_34 : DAt B1 34 (.putfield 20) 3 37 := ⟨by decide +kernel, rfl⟩
theorem d1_37 : DAt B1 37 (.aload_n 0) 1 38 := ⟨by decide +kernel, rfl⟩
theorem d1_38 : DAt B1 38 (.sipush 512) 3 41 := ⟨by decide +kernel, rfl⟩
theorem d1_41 : DAt B1 41 (.newarray .int) 2 43 := ⟨by decide +kernel, rfl⟩
theorem d1_43 : DAt B1 43 (.putfield 23) 3 46 := ⟨by decide +kernel, rfl⟩
theorem d1_46 : DAt B1 46 (.aload_n 0) 1 47 := ⟨by decide +kernel, rfl⟩
theorem d1_47 : DAt B1 47 (.sipush 512) 3 50 := ⟨by decide +kernel, rfl⟩
theorem d1_50 : DAt B1 50 (.newarray .int) 2 52 := ⟨by decide +kernel, rfl⟩
theorem d1_52 : DAt B1 52 (.putfield 26) 3 55 := ⟨by decide +kernel, rfl⟩
theorem d1_55 : DAt B1 55 (.aload_n 0) 1 56 := ⟨by decide +kernel, rfl⟩
theorem d1_56 : DAt B1 56 (.sipush 512) 3 59 := ⟨by decide +kernel, rfl⟩
theorem d1_59 : DAt B1 59 (.newarray .int) 2 61 := ⟨by decide +kernel, rfl⟩
theorem d1_61 : DAt B1 61 (.putfield 29) 3 64 := ⟨by decide +kernel, rfl⟩
theorem d1_64 : DAt B1 64 (.aload_n 0) 1 65 := ⟨by decide +kernel, rfl⟩
theorem d1_65 : DAt B1 65 (.sipush 512) 3 68 := ⟨by decide +kernel, rfl⟩
theorem d1_68 : DAt B1 68 (.newarray .int) 2 70 := ⟨by decide +kernel, rfl⟩
theorem d1_70 : DAt B1 70 (.putfield 32) 3 73 := ⟨by decide +kernel, rfl⟩
theorem d1_73 : DAt B1 73 (.aload_n 0) 1 74 := ⟨by decide +kernel, rfl⟩
theorem d1_74 : DAt B1 74 (.bipush 8) 2 76 := ⟨by decide +kernel, rfl⟩
theorem d1_76 : DAt B1 76 (.newarray .int) 2 78 := ⟨by decide +kernel, rfl⟩
theorem d1_78 : DAt B1 78 (.putfield 35) 3 81 := ⟨by decide +kernel, rfl⟩
theorem d1_81 : DAt B1 81 (.iload_n 1) 1 82 := ⟨by decide +kernel, rfl⟩
theorem d1_82 : DAt B1 82 (.istore_n 3) 1 83 := ⟨by decide +kernel, rfl⟩
theorem d1_83 : DAt B1 83 (.iload_n 3) 1 84 := ⟨by decide +kernel, rfl⟩
theorem d1_84 : DAt B1 84 (.iconst 2) 1 85 := ⟨by decide +kernel, rfl⟩
theorem d1_85 : DAt B1 85 (.if_icmp .ge 5) 3 88 := ⟨by decide +kernel, rfl⟩
theorem d1_88 : DAt B1 88 (.iconst 2) 1 89 := ⟨by decide +kernel, rfl⟩
theorem d1_89 : DAt B1 89 (.istore_n 3) 1 90 := ⟨by decide +kernel, rfl⟩
theorem d1_90 : DAt B1 90 (.iload_n 3) 1 91 := ⟨by decide +kernel, rfl⟩
theorem d1_91 : DAt B1 91 (.bipush 8) 2 93 := ⟨by decide +kernel, rfl⟩
theorem d1_93 : DAt B1 93 (.if_icmp .le 6) 3 96 := ⟨by decide +kernel, rfl⟩
theorem d1_96 : DAt B1 96 (.bipush 8) 2 98 := ⟨by decide +kernel, rfl⟩
theorem d1_98 : DAt B1 98 (.istore_n 3) 1 99 := ⟨by decide +kernel, rfl⟩
theorem d1_99 : DAt B1 99 (.aload_n 0) 1 100 := ⟨by decide +kernel, rfl⟩
theorem d1_100 : DAt B1 100 (.iload_n 3) 1 101 := ⟨by decide +kernel, rfl⟩
theorem d1_101 : DAt B1 101 (.putfield 38) 3 104 := ⟨by decide +kernel, rfl⟩
theorem d1_104 : DAt B1 104 (.iload_n 2) 1 105 := ⟨by decide +kernel, rfl⟩
theorem d1_105 : DAt B1 105 (.istore 4) 2 107 := ⟨by decide +kernel, rfl⟩
theorem d1_107 : DAt B1 107 (.iload 4) 2 109 := ⟨by decide +kernel, rfl⟩
theorem d1_109 : DAt B1 109 (.iconst 1) 1 110 := ⟨by decide +kernel, rfl⟩
theorem d1_110 : DAt B1 110 (.if_icmp .ge 6) 3 113 := ⟨by decide +kernel, rfl⟩
theorem d1_113 : DAt B1 113 (.iconst 1) 1 114 := ⟨by decide +kernel, rfl⟩
theorem d1_114 : DAt B1 114 (.istore 4) 2 116 := ⟨by decide +kernel, rfl⟩
theorem d1_116 : DAt B1 116 (.iload 4) 2 118 := ⟨by decide +kernel, rfl⟩
theorem d1_118 : DAt B1 118 (.bipush 8) 2 120 := ⟨by decide +kernel, rfl⟩
theorem d1_120 : DAt B1 120 (.if_icmp .le 7) 3 123 := ⟨by decide +kernel, rfl⟩
theorem d1_123 : DAt B1 123 (.bipush 8) 2 125 := ⟨by decide +kernel, rfl⟩
theorem d1_125 : DAt B1 125 (.istore 4) 2 127 := ⟨by decide +kernel, rfl⟩
theorem d1_127 : DAt B1 127 (.aload_n 0) 1 128 := ⟨by decide +kernel, rfl⟩
theorem d1_128 : DAt B1 128 (.iload 4) 2 130 := ⟨by decide +kernel, rfl⟩
theorem d1_130 : DAt B1 130 (.putfield 42) 3 133 := ⟨by decide +kernel, rfl⟩
theorem d1_133 : DAt B1 133 (.return_) 1 134 := ⟨by decide +kernel, rfl⟩
def B6 : Bdy := ((⟨"CausalStable", "validProc", "(I)Z"⟩ : MethodName), prog_1_method_2_code, 2, (some .boolean), ({ frames := 0, cells := 0, slots := 0, locals := 0 } : Room))
theorem d6_0 : DAt B6 0 (.iload_n 1) 1 1 := ⟨by decide +kernel, rfl⟩
theorem d6_1 : DAt B6 1 (.ifCond .lt 15) 3 4 := ⟨by decide +kernel, rfl⟩
theorem d6_4 : DAt B6 4 (.iload_n 1) 1 5 := ⟨by decide +kernel, rfl⟩
theorem d6_5 : DAt B6 5 (.aload_n 0) 1 6 := ⟨by decide +kernel, rfl⟩
theorem d6_6 : DAt B6 6 (.getfield 38) 3 9 := ⟨by decide +kernel, rfl⟩
theorem d6_9 : DAt B6 9 (.if_icmp .ge 7) 3 12 := ⟨by decide +kernel, rfl⟩
theorem d6_12 : DAt B6 12 (.iconst 1) 1 13 := ⟨by decide +kernel, rfl⟩
theorem d6_13 : DAt B6 13 (.goto 4) 3 16 := ⟨by decide +kernel, rfl⟩
theorem d6_16 : DAt B6 16 (.iconst 0) 1 17 := ⟨by decide +kernel, rfl⟩
theorem d6_17 : DAt B6 17 (.ireturn) 1 18 := ⟨by decide +kernel, rfl⟩
def B4 : Bdy := ((⟨"CausalStable", "exists", "(II)Z"⟩ : MethodName), prog_1_method_3_code, 3, (some .boolean), ({ frames := 0, cells := 0, slots := 0, locals := 0 } : Room))
theorem d4_0 : DAt B4 0 (.iload_n 1) 1 1 := ⟨by decide +kernel, rfl⟩
theorem d4_1 : DAt B4 1 (.ifCond .lt 30) 3 4 := ⟨by decide +kernel, rfl⟩
theorem d4_4 : DAt B4 4 (.iload_n 1) 1 5 := ⟨by decide +kernel, rfl⟩
theorem d4_5 : DAt B4 5 (.aload_n 0) 1 6 := ⟨by decide +kernel, rfl⟩
theorem d4_6 : DAt B4 6 (.getfield 38) 3 9 := ⟨by decide +kernel, rfl⟩
theorem d4_9 : DAt B4 9 (.if_icmp .ge 22) 3 12 := ⟨by decide +kernel, rfl⟩
theorem d4_12 : DAt B4 12 (.iload_n 2) 1 13 := ⟨by decide +kernel, rfl⟩
theorem d4_13 : DAt B4 13 (.iconst 1) 1 14 := ⟨by decide +kernel, rfl⟩
theorem d4_14 : DAt B4 14 (.if_icmp .lt 17) 3 17 := ⟨by decide +kernel, rfl⟩
theorem d4_17 : DAt B4 17 (.iload_n 2) 1 18 := ⟨by decide +kernel, rfl⟩
theorem d4_18 : DAt B4 18 (.aload_n 0) 1 19 := ⟨by decide +kernel, rfl⟩
theorem d4_19 : DAt B4 19 (.getfield 7) 3 22 := ⟨by decide +kernel, rfl⟩
theorem d4_22 : DAt B4 22 (.iload_n 1) 1 23 := ⟨by decide +kernel, rfl⟩
theorem d4_23 : DAt B4 23 (.iaload) 1 24 := ⟨by decide +kernel, rfl⟩
theorem d4_24 : DAt B4 24 (.if_icmp .gt 7) 3 27 := ⟨by decide +kernel, rfl⟩
theorem d4_27 : DAt B4 27 (.iconst 1) 1 28 := ⟨by decide +kernel, rfl⟩
theorem d4_28 : DAt B4 28 (.goto 4) 3 31 := ⟨by decide +kernel, rfl⟩
theorem d4_31 : DAt B4 31 (.iconst 0) 1 32 := ⟨by decide +kernel, rfl⟩
theorem d4_32 : DAt B4 32 (.ireturn) 1 33 := ⟨by decide +kernel, rfl⟩
def B13 : Bdy := ((⟨"CausalStable", "copyIndex", "(III)I"⟩ : MethodName), prog_1_method_6_code, 4, (some .int), ({ frames := 0, cells := 0, slots := 0, locals := 0 } : Room))
theorem d13_0 : DAt B13 0 (.iload_n 1) 1 1 := ⟨by decide +kernel, rfl⟩
theorem d13_1 : DAt B13 1 (.bipush 8) 2 3 := ⟨by decide +kernel, rfl⟩
theorem d13_3 : DAt B13 3 (.imul) 1 4 := ⟨by decide +kernel, rfl⟩
theorem d13_4 : DAt B13 4 (.iload_n 2) 1 5 := ⟨by decide +kernel, rfl⟩
theorem d13_5 : DAt B13 5 (.iadd) 1 6 := ⟨by decide +kernel, rfl⟩
theorem d13_6 : DAt B13 6 (.iconst 1) 1 7 := ⟨by decide +kernel, rfl⟩
theorem d13_7 : DAt B13 7 (.isub) 1 8 := ⟨by decide +kernel, rfl⟩
theorem d13_8 : DAt B13 8 (.bipush 8) 2 10 := ⟨by decide +kernel, rfl⟩
theorem d13_10 : DAt B13 10 (.imul) 1 11 := ⟨by decide +kernel, rfl⟩
theorem d13_11 : DAt B13 11 (.iload_n 3) 1 12 := ⟨by decide +kernel, rfl⟩
theorem d13_12 : DAt B13 12 (.iadd) 1 13 := ⟨by decide +kernel, rfl⟩
theorem d13_13 : DAt B13 13 (.ireturn) 1 14 := ⟨by decide +kernel, rfl⟩
def B9 : Bdy := ((⟨"CausalStable", "stateIndex", "(III)I"⟩ : MethodName), prog_1_method_5_code, 4, (some .int), ({ frames := 0, cells := 0, slots := 0, locals := 0 } : Room))
theorem d9_0 : DAt B9 0 (.iload_n 1) 1 1 := ⟨by decide +kernel, rfl⟩
theorem d9_1 : DAt B9 1 (.bipush 64) 2 3 := ⟨by decide +kernel, rfl⟩
theorem d9_3 : DAt B9 3 (.imul) 1 4 := ⟨by decide +kernel, rfl⟩
theorem d9_4 : DAt B9 4 (.iload_n 2) 1 5 := ⟨by decide +kernel, rfl⟩
theorem d9_5 : DAt B9 5 (.bipush 8) 2 7 := ⟨by decide +kernel, rfl⟩
theorem d9_7 : DAt B9 7 (.imul) 1 8 := ⟨by decide +kernel, rfl⟩
theorem d9_8 : DAt B9 8 (.iadd) 1 9 := ⟨by decide +kernel, rfl⟩
theorem d9_9 : DAt B9 9 (.iload_n 3) 1 10 := ⟨by decide +kernel, rfl⟩
theorem d9_10 : DAt B9 10 (.iadd) 1 11 := ⟨by decide +kernel, rfl⟩
theorem d9_11 : DAt B9 11 (.iconst 1) 1 12 := ⟨by decide +kernel, rfl⟩
theorem d9_12 : DAt B9 12 (.isub) 1 13 := ⟨by decide +kernel, rfl⟩
theorem d9_13 : DAt B9 13 (.ireturn) 1 14 := ⟨by decide +kernel, rfl⟩
def B7 : Bdy := ((⟨"CausalStable", "msgIndex", "(II)I"⟩ : MethodName), prog_1_method_4_code, 3, (some .int), ({ frames := 0, cells := 0, slots := 0, locals := 0 } : Room))
theorem d7_0 : DAt B7 0 (.iload_n 1) 1 1 := ⟨by decide +kernel, rfl⟩
theorem d7_1 : DAt B7 1 (.bipush 8) 2 3 := ⟨by decide +kernel, rfl⟩
theorem d7_3 : DAt B7 3 (.imul) 1 4 := ⟨by decide +kernel, rfl⟩
theorem d7_4 : DAt B7 4 (.iload_n 2) 1 5 := ⟨by decide +kernel, rfl⟩
theorem d7_5 : DAt B7 5 (.iadd) 1 6 := ⟨by decide +kernel, rfl⟩
theorem d7_6 : DAt B7 6 (.iconst 1) 1 7 := ⟨by decide +kernel, rfl⟩
theorem d7_7 : DAt B7 7 (.isub) 1 8 := ⟨by decide +kernel, rfl⟩
theorem d7_8 : DAt B7 8 (.ireturn) 1 9 := ⟨by decide +kernel, rfl⟩
def B15 : Bdy := ((⟨"CausalStable", "isDeliverable", "(III)Z"⟩ : MethodName), prog_1_method_9_code, 7, (some .boolean), ({ frames := 1, cells := 0, slots := 0, locals := 15 } : Room))
theorem d15_0 : DAt B15 0 (.aload_n 0) 1 1 := ⟨by decide +kernel, rfl⟩
theorem d15_1 : DAt B15 1 (.iload_n 2) 1 2 := ⟨by decide +kernel, rfl⟩
theorem d15_2 : DAt B15 2 (.iload_n 3) 1 3 := ⟨by decide +kernel, rfl⟩
theorem d15_3 : DAt B15 3 (.invokevirtual 52) 3 6 := ⟨by decide +kernel, rfl⟩
theorem d15_6 : DAt B15 6 (.ifCond .ne 5) 3 9 := ⟨by decide +kernel, rfl⟩
theorem d15_9 : DAt B15 9 (.iconst 0) 1 10 := ⟨by decide +kernel, rfl⟩
theorem d15_10 : DAt B15 10 (.ireturn) 1 11 := ⟨by decide +kernel, rfl⟩
theorem d15_11 : DAt B15 11 (.aload_n 0) 1 12 := ⟨by decide +kernel, rfl⟩
theorem d15_12 : DAt B15 12 (.iload_n 1) 1 13 := ⟨by decide +kernel, rfl⟩
theorem d15_13 : DAt B15 13 (.iload_n 2) 1 14 := ⟨by decide +kernel, rfl⟩
theorem d15_14 : DAt B15 14 (.iload_n 3) 1 15 := ⟨by decide +kernel, rfl⟩
theorem d15_15 : DAt B15 15 (.invokevirtual 45) 3 18 := ⟨by decide +kernel, rfl⟩
theorem d15_18 : DAt B15 18 (.istore 4) 2 20 := ⟨by decide +kernel, rfl⟩
theorem d15_20 : DAt B15 20 (.aload_n 0) 1 21 := ⟨by decide +kernel, rfl⟩
theorem d15_21 : DAt B15 21 (.getfield 20) 3 24 := ⟨by decide +kernel, rfl⟩
theorem d15_24 : DAt B15 24 (.iload 4) 2 26 := ⟨by decide +kernel, rfl⟩
theorem d15_26 : DAt B15 26 (.iaload) 1 27 := ⟨by decide +kernel, rfl⟩
theorem d15_27 : DAt B15 27 (.iconst 1) 1 28 := ⟨by decide +kernel, rfl⟩
theorem d15_28 : DAt B15 28 (.if_icmp .eq 5) 3 31 := ⟨by decide +kernel, rfl⟩
theorem d15_31 : DAt B15 31 (.iconst 0) 1 32 := ⟨by decide +kernel, rfl⟩
theorem d15_32 : DAt B15 32 (.ireturn) 1 33 := ⟨by decide +kernel, rfl⟩
theorem d15_33 : DAt B15 33 (.iload_n 3) 1 34 := ⟨by decide +kernel, rfl⟩
theorem d15_34 : DAt B15 34 (.aload_n 0) 1 35 := ⟨by decide +kernel, rfl⟩
theorem d15_35 : DAt B15 35 (.getfield 17) 3 38 := ⟨by decide +kernel, rfl⟩
theorem d15_38 : DAt B15 38 (.iload_n 1) 1 39 := ⟨by decide +kernel, rfl⟩
theorem d15_39 : DAt B15 39 (.bipush 8) 2 41 := ⟨by decide +kernel, rfl⟩
theorem d15_41 : DAt B15 41 (.imul) 1 42 := ⟨by decide +kernel, rfl⟩
theorem d15_42 : DAt B15 42 (.iload_n 2) 1 43 := ⟨by decide +kernel, rfl⟩
theorem d15_43 : DAt B15 43 (.iadd) 1 44 := ⟨by decide +kernel, rfl⟩
theorem d15_44 : DAt B15 44 (.iaload) 1 45 := ⟨by decide +kernel, rfl⟩
theorem d15_45 : DAt B15 45 (.iconst 1) 1 46 := ⟨by decide +kernel, rfl⟩
theorem d15_46 : DAt B15 46 (.iadd) 1 47 := ⟨by decide +kernel, rfl⟩
theorem d15_47 : DAt B15 47 (.if_icmp .eq 5) 3 50 := ⟨by decide +kernel, rfl⟩
theorem d15_50 : DAt B15 50 (.iconst 0) 1 51 := ⟨by decide +kernel, rfl⟩
theorem d15_51 : DAt B15 51 (.ireturn) 1 52 := ⟨by decide +kernel, rfl⟩
theorem d15_52 : DAt B15 52 (.aload_n 0) 1 53 := ⟨by decide +kernel, rfl⟩
theorem d15_53 : DAt B15 53 (.iload_n 2) 1 54 := ⟨by decide +kernel, rfl⟩
theorem d15_54 : DAt B15 54 (.iload_n 3) 1 55 := ⟨by decide +kernel, rfl⟩
theorem d15_55 : DAt B15 55 (.invokevirtual 56) 3 58 := ⟨by decide +kernel, rfl⟩
theorem d15_58 : DAt B15 58 (.istore 5) 2 60 := ⟨by decide +kernel, rfl⟩
theorem d15_60 : DAt B15 60 (.iconst 0) 1 61 := ⟨by decide +kernel, rfl⟩
theorem d15_61 : DAt B15 61 (.istore 6) 2 63 := ⟨by decide +kernel, rfl⟩
theorem d15_63 : DAt B15 63 (.iload 6) 2 65 := ⟨by decide +kernel, rfl⟩
theorem d15_65 : DAt B15 65 (.aload_n 0) 1 66 := ⟨by decide +kernel, rfl⟩
theorem d15_66 : DAt B15 66 (.getfield 38) 3 69 := ⟨by decide +kernel, rfl⟩
theorem d15_69 : DAt B15 69 (.if_icmp .ge 45) 3 72 := ⟨by decide +kernel, rfl⟩
theorem d15_72 : DAt B15 72 (.iload 6) 2 74 := ⟨by decide +kernel, rfl⟩
theorem d15_74 : DAt B15 74 (.iload_n 2) 1 75 := ⟨by decide +kernel, rfl⟩
theorem d15_75 : DAt B15 75 (.if_icmp .eq 33) 3 78 := ⟨by decide +kernel, rfl⟩
theorem d15_78 : DAt B15 78 (.aload_n 0) 1 79 := ⟨by decide +kernel, rfl⟩
theorem d15_79 : DAt B15 79 (.getfield 23) 3 82 := ⟨by decide +kernel, rfl⟩
theorem d15_82 : DAt B15 82 (.iload 5) 2 84 := ⟨by decide +kernel, rfl⟩
theorem d15_84 : DAt B15 84 (.bipush 8) 2 86 := ⟨by decide +kernel, rfl⟩
theorem d15_86 : DAt B15 86 (.imul) 1 87 := ⟨by decide +kernel, rfl⟩
theorem d15_87 : DAt B15 87 (.iload 6) 2 89 := ⟨by decide +kernel, rfl⟩
theorem d15_89 : DAt B15 89 (.iadd) 1 90 := ⟨by decide +kernel, rfl⟩
theorem d15_90 : DAt B15 90 (.iaload) 1 91 := ⟨by decide +kernel, rfl⟩
theorem d15_91 : DAt B15 91 (.aload_n 0) 1 92 := ⟨by decide +kernel, rfl⟩
theorem d15_92 : DAt B15 92 (.getfield 17) 3 95 := ⟨by decide +kernel, rfl⟩
theorem d15_95 : DAt B15 95 (.iload_n 1) 1 96 := ⟨by decide +kernel, rfl⟩
theorem d15_96 : DAt B15 96 (.bipush 8) 2 98 := ⟨by decide +kernel, rfl⟩
theorem d15_98 : DAt B15 98 (.imul) 1 99 := ⟨by decide +kernel, rfl⟩
theorem d15_99 : DAt B15 99 (.iload 6) 2 101 := ⟨by decide +kernel, rfl⟩
theorem d15_101 : DAt B15 101 (.iadd) 1 102 := ⟨by decide +kernel, rfl⟩
theorem d15_102 : DAt B15 102 (.iaload) 1 103 := ⟨by decide +kernel, rfl⟩
theorem d15_103 : DAt B15 103 (.if_icmp .le 5) 3 106 := ⟨by decide +kernel, rfl⟩
theorem d15_106 : DAt B15 106 (.iconst 0) 1 107 := ⟨by decide +kernel, rfl⟩
theorem d15_107 : DAt B15 107 (.ireturn) 1 108 := ⟨by decide +kernel, rfl⟩
theorem d15_108 : DAt B15 108 (.iinc 6 1) 3 111 := ⟨by decide +kernel, rfl⟩
theorem d15_111 : DAt B15 111 (.goto (-48)) 3 114 := ⟨by decide +kernel, rfl⟩
theorem d15_114 : DAt B15 114 (.iconst 1) 1 115 := ⟨by decide +kernel, rfl⟩
theorem d15_115 : DAt B15 115 (.ireturn) 1 116 := ⟨by decide +kernel, rfl⟩
def B10 : Bdy := ((⟨"CausalStable", "knownIndex", "(III)I"⟩ : MethodName), prog_1_method_7_code, 4, (some .int), ({ frames := 0, cells := 0, slots := 0, locals := 0 } : Room))
theorem d10_0 : DAt B10 0 (.iload_n 1) 1 1 := ⟨by decide +kernel, rfl⟩
theorem d10_1 : DAt B10 1 (.bipush 64) 2 3 := ⟨by decide +kernel, rfl⟩
theorem d10_3 : DAt B10 3 (.imul) 1 4 := ⟨by decide +kernel, rfl⟩
theorem d10_4 : DAt B10 4 (.iload_n 2) 1 5 := ⟨by decide +kernel, rfl⟩
theorem d10_5 : DAt B10 5 (.bipush 8) 2 7 := ⟨by decide +kernel, rfl⟩
theorem d10_7 : DAt B10 7 (.imul) 1 8 := ⟨by decide +kernel, rfl⟩
theorem d10_8 : DAt B10 8 (.iadd) 1 9 := ⟨by decide +kernel, rfl⟩
theorem d10_9 : DAt B10 9 (.iload_n 3) 1 10 := ⟨by decide +kernel, rfl⟩
theorem d10_10 : DAt B10 10 (.iadd) 1 11 := ⟨by decide +kernel, rfl⟩
theorem d10_11 : DAt B10 11 (.ireturn) 1 12 := ⟨by decide +kernel, rfl⟩
def B8 : Bdy := ((⟨"CausalStable", "deliverAt", "(III)V"⟩ : MethodName), prog_1_method_8_code, 7, none, ({ frames := 1, cells := 0, slots := 0, locals := 15 } : Room))
theorem d8_0 : DAt B8 0 (.aload_n 0) 1 1 := ⟨by decide +kernel, rfl⟩
theorem d8_1 : DAt B8 1 (.iload_n 1) 1 2 := ⟨by decide +kernel, rfl⟩
theorem d8_2 : DAt B8 2 (.iload_n 2) 1 3 := ⟨by decide +kernel, rfl⟩
theorem d8_3 : DAt B8 3 (.iload_n 3) 1 4 := ⟨by decide +kernel, rfl⟩
theorem d8_4 : DAt B8 4 (.invokevirtual 45) 3 7 := ⟨by decide +kernel, rfl⟩
theorem d8_7 : DAt B8 7 (.istore 4) 2 9 := ⟨by decide +kernel, rfl⟩
theorem d8_9 : DAt B8 9 (.aload_n 0) 1 10 := ⟨by decide +kernel, rfl⟩
theorem d8_10 : DAt B8 10 (.getfield 20) 3 13 := ⟨by decide +kernel, rfl⟩
theorem d8_13 : DAt B8 13 (.iload 4) 2 15 := ⟨by decide +kernel, rfl⟩
theorem d8_15 : DAt B8 15 (.iconst 2) 1 16 := ⟨by decide +kernel, rfl⟩
theorem d8_16 : DAt B8 16 (.iastore) 1 17 := ⟨by decide +kernel, rfl⟩
theorem d8_17 : DAt B8 17 (.aload_n 0) 1 18 := ⟨by decide +kernel, rfl⟩
theorem d8_18 : DAt B8 18 (.getfield 17) 3 21 := ⟨by decide +kernel, rfl⟩
theorem d8_21 : DAt B8 21 (.iload_n 1) 1 22 := ⟨by decide +kernel, rfl⟩
theorem d8_22 : DAt B8 22 (.bipush 8) 2 24 := ⟨by decide +kernel, rfl⟩
theorem d8_24 : DAt B8 24 (.imul) 1 25 := ⟨by decide +kernel, rfl⟩
theorem d8_25 : DAt B8 25 (.iload_n 2) 1 26 := ⟨by decide +kernel, rfl⟩
theorem d8_26 : DAt B8 26 (.iadd) 1 27 := ⟨by decide +kernel, rfl⟩
theorem d8_27 : DAt B8 27 (.aload_n 0) 1 28 := ⟨by decide +kernel, rfl⟩
theorem d8_28 : DAt B8 28 (.getfield 17) 3 31 := ⟨by decide +kernel, rfl⟩
theorem d8_31 : DAt B8 31 (.iload_n 1) 1 32 := ⟨by decide +kernel, rfl⟩
theorem d8_32 : DAt B8 32 (.bipush 8) 2 34 := ⟨by decide +kernel, rfl⟩
theorem d8_34 : DAt B8 34 (.imul) 1 35 := ⟨by decide +kernel, rfl⟩
theorem d8_35 : DAt B8 35 (.iload_n 2) 1 36 := ⟨by decide +kernel, rfl⟩
theorem d8_36 : DAt B8 36 (.iadd) 1 37 := ⟨by decide +kernel, rfl⟩
theorem d8_37 : DAt B8 37 (.iaload) 1 38 := ⟨by decide +kernel, rfl⟩
theorem d8_38 : DAt B8 38 (.iconst 1) 1 39 := ⟨by decide +kernel, rfl⟩
theorem d8_39 : DAt B8 39 (.iadd) 1 40 := ⟨by decide +kernel, rfl⟩
theorem d8_40 : DAt B8 40 (.iastore) 1 41 := ⟨by decide +kernel, rfl⟩
theorem d8_41 : DAt B8 41 (.aload_n 0) 1 42 := ⟨by decide +kernel, rfl⟩
theorem d8_42 : DAt B8 42 (.getfield 35) 3 45 := ⟨by decide +kernel, rfl⟩
theorem d8_45 : DAt B8 45 (.iload_n 1) 1 46 := ⟨by decide +kernel, rfl⟩
theorem d8_46 : DAt B8 46 (.iaload) 1 47 := ⟨by decide +kernel, rfl⟩
theorem d8_47 : DAt B8 47 (.istore 5) 2 49 := ⟨by decide +kernel, rfl⟩
theorem d8_49 : DAt B8 49 (.iload 5) 2 51 := ⟨by decide +kernel, rfl⟩
theorem d8_51 : DAt B8 51 (.ifCond .lt 38) 3 54 := ⟨by decide +kernel, rfl⟩
theorem d8_54 : DAt B8 54 (.iload 5) 2 56 := ⟨by decide +kernel, rfl⟩
theorem d8_56 : DAt B8 56 (.bipush 64) 2 58 := ⟨by decide +kernel, rfl⟩
theorem d8_58 : DAt B8 58 (.if_icmp .ge 31) 3 61 := ⟨by decide +kernel, rfl⟩
theorem d8_61 : DAt B8 61 (.aload_n 0) 1 62 := ⟨by decide +kernel, rfl⟩
theorem d8_62 : DAt B8 62 (.getfield 32) 3 65 := ⟨by decide +kernel, rfl⟩
theorem d8_65 : DAt B8 65 (.iload_n 1) 1 66 := ⟨by decide +kernel, rfl⟩
theorem d8_66 : DAt B8 66 (.bipush 64) 2 68 := ⟨by decide +kernel, rfl⟩
theorem d8_68 : DAt B8 68 (.imul) 1 69 := ⟨by decide +kernel, rfl⟩
theorem d8_69 : DAt B8 69 (.iload 5) 2 71 := ⟨by decide +kernel, rfl⟩
theorem d8_71 : DAt B8 71 (.iadd) 1 72 := ⟨by decide +kernel, rfl⟩
theorem d8_72 : DAt B8 72 (.iload_n 2) 1 73 := ⟨by decide +kernel, rfl⟩
theorem d8_73 : DAt B8 73 (.bipush 16) 2 75 := ⟨by decide +kernel, rfl⟩
theorem d8_75 : DAt B8 75 (.imul) 1 76 := ⟨by decide +kernel, rfl⟩
theorem d8_76 : DAt B8 76 (.iload_n 3) 1 77 := ⟨by decide +kernel, rfl⟩
theorem d8_77 : DAt B8 77 (.iadd) 1 78 := ⟨by decide +kernel, rfl⟩
theorem d8_78 : DAt B8 78 (.iastore) 1 79 := ⟨by decide +kernel, rfl⟩
theorem d8_79 : DAt B8 79 (.aload_n 0) 1 80 := ⟨by decide +kernel, rfl⟩
theorem d8_80 : DAt B8 80 (.getfield 35) 3 83 := ⟨by decide +kernel, rfl⟩
theorem d8_83 : DAt B8 83 (.iload_n 1) 1 84 := ⟨by decide +kernel, rfl⟩
theorem d8_84 : DAt B8 84 (.iload 5) 2 86 := ⟨by decide +kernel, rfl⟩
theorem d8_86 : DAt B8 86 (.iconst 1) 1 87 := ⟨by decide +kernel, rfl⟩
theorem d8_87 : DAt B8 87 (.iadd) 1 88 := ⟨by decide +kernel, rfl⟩
theorem d8_88 : DAt B8 88 (.iastore) 1 89 := ⟨by decide +kernel, rfl⟩
theorem d8_89 : DAt B8 89 (.aload_n 0) 1 90 := ⟨by decide +kernel, rfl⟩
theorem d8_90 : DAt B8 90 (.iload_n 1) 1 91 := ⟨by decide +kernel, rfl⟩
theorem d8_91 : DAt B8 91 (.iload_n 1) 1 92 := ⟨by decide +kernel, rfl⟩
theorem d8_92 : DAt B8 92 (.iload_n 2) 1 93 := ⟨by decide +kernel, rfl⟩
theorem d8_93 : DAt B8 93 (.invokevirtual 49) 3 96 := ⟨by decide +kernel, rfl⟩
theorem d8_96 : DAt B8 96 (.istore 6) 2 98 := ⟨by decide +kernel, rfl⟩
theorem d8_98 : DAt B8 98 (.aload_n 0) 1 99 := ⟨by decide +kernel, rfl⟩
theorem d8_99 : DAt B8 99 (.getfield 29) 3 102 := ⟨by decide +kernel, rfl⟩
theorem d8_102 : DAt B8 102 (.iload 6) 2 104 := ⟨by decide +kernel, rfl⟩
theorem d8_104 : DAt B8 104 (.aload_n 0) 1 105 := ⟨by decide +kernel, rfl⟩
theorem d8_105 : DAt B8 105 (.getfield 17) 3 108 := ⟨by decide +kernel, rfl⟩
theorem d8_108 : DAt B8 108 (.iload_n 1) 1 109 := ⟨by decide +kernel, rfl⟩
theorem d8_109 : DAt B8 109 (.bipush 8) 2 111 := ⟨by decide +kernel, rfl⟩
theorem d8_111 : DAt B8 111 (.imul) 1 112 := ⟨by decide +kernel, rfl⟩
theorem d8_112 : DAt B8 112 (.iload_n 2) 1 113 := ⟨by decide +kernel, rfl⟩
theorem d8_113 : DAt B8 113 (.iadd) 1 114 := ⟨by decide +kernel, rfl⟩
theorem d8_114 : DAt B8 114 (.iaload) 1 115 := ⟨by decide +kernel, rfl⟩
theorem d8_115 : DAt B8 115 (.iastore) 1 116 := ⟨by decide +kernel, rfl⟩
theorem d8_116 : DAt B8 116 (.return_) 1 117 := ⟨by decide +kernel, rfl⟩
def B14 : Bdy := ((⟨"CausalStable", "cascade", "(I)I"⟩ : MethodName), prog_1_method_10_code, 8, (some .int), ({ frames := 2, cells := 0, slots := 0, locals := 33 } : Room))
theorem d14_0 : DAt B14 0 (.iconst 0) 1 1 := ⟨by decide +kernel, rfl⟩
theorem d14_1 : DAt B14 1 (.istore_n 2) 1 2 := ⟨by decide +kernel, rfl⟩
theorem d14_2 : DAt B14 2 (.iconst 0) 1 3 := ⟨by decide +kernel, rfl⟩
theorem d14_3 : DAt B14 3 (.istore_n 3) 1 4 := ⟨by decide +kernel, rfl⟩
theorem d14_4 : DAt B14 4 (.iload_n 3) 1 5 := ⟨by decide +kernel, rfl⟩
theorem d14_5 : DAt B14 5 (.bipush 65) 2 7 := ⟨by decide +kernel, rfl⟩
theorem d14_7 : DAt B14 7 (.if_icmp .ge 92) 3 10 := ⟨by decide +kernel, rfl⟩
theorem d14_10 : DAt B14 10 (.iconst (-1)) 1 11 := ⟨by decide +kernel, rfl⟩
theorem d14_11 : DAt B14 11 (.istore 4) 2 13 := ⟨by decide +kernel, rfl⟩
theorem d14_13 : DAt B14 13 (.iconst 0) 1 14 := ⟨by decide +kernel, rfl⟩
theorem d14_14 : DAt B14 14 (.istore 5) 2 16 := ⟨by decide +kernel, rfl⟩
theorem d14_16 : DAt B14 16 (.iconst 0) 1 17 := ⟨by decide +kernel, rfl⟩
theorem d14_17 : DAt B14 17 (.istore 6) 2 19 := ⟨by decide +kernel, rfl⟩
theorem d14_19 : DAt B14 19 (.iload 6) 2 21 := ⟨by decide +kernel, rfl⟩
theorem d14_21 : DAt B14 21 (.aload_n 0) 1 22 := ⟨by decide +kernel, rfl⟩
theorem d14_22 : DAt B14 22 (.getfield 38) 3 25 := ⟨by decide +kernel, rfl⟩
theorem d14_25 : DAt B14 25 (.if_icmp .ge 48) 3 28 := ⟨by decide +kernel, rfl⟩
theorem d14_28 : DAt B14 28 (.aload_n 0) 1 29 := ⟨by decide +kernel, rfl⟩
theorem d14_29 : DAt B14 29 (.getfield 17) 3 32 := ⟨by decide +kernel, rfl⟩
theorem d14_32 : DAt B14 32 (.iload_n 1) 1 33 := ⟨by decide +kernel, rfl⟩
theorem d14_33 : DAt B14 33 (.bipush 8) 2 35 := ⟨by decide +kernel, rfl⟩
theorem d14_35 : DAt B14 35 (.imul) 1 36 := ⟨by decide +kernel, rfl⟩
theorem d14_36 : DAt B14 36 (.iload 6) 2 38 := ⟨by decide +kernel, rfl⟩
theorem d14_38 : DAt B14 38 (.iadd) 1 39 := ⟨by decide +kernel, rfl⟩
theorem d14_39 : DAt B14 39 (.iaload) 1 40 := ⟨by decide +kernel, rfl⟩
theorem d14_40 : DAt B14 40 (.iconst 1) 1 41 := ⟨by decide +kernel, rfl⟩
theorem d14_41 : DAt B14 41 (.iadd) 1 42 := ⟨by decide +kernel, rfl⟩
theorem d14_42 : DAt B14 42 (.istore 7) 2 44 := ⟨by decide +kernel, rfl⟩
theorem d14_44 : DAt B14 44 (.aload_n 0) 1 45 := ⟨by decide +kernel, rfl⟩
theorem d14_45 : DAt B14 45 (.iload_n 1) 1 46 := ⟨by decide +kernel, rfl⟩
theorem d14_46 : DAt B14 46 (.iload 6) 2 48 := ⟨by decide +kernel, rfl⟩
theorem d14_48 : DAt B14 48 (.iload 7) 2 50 := ⟨by decide +kernel, rfl⟩
theorem d14_50 : DAt B14 50 (.invokevirtual 60) 3 53 := ⟨by decide +kernel, rfl⟩
theorem d14_53 : DAt B14 53 (.ifCond .eq 14) 3 56 := ⟨by decide +kernel, rfl⟩
theorem d14_56 : DAt B14 56 (.iload 6) 2 58 := ⟨by decide +kernel, rfl⟩
theorem d14_58 : DAt B14 58 (.istore 4) 2 60 := ⟨by decide +kernel, rfl⟩
theorem d14_60 : DAt B14 60 (.iload 7) 2 62 := ⟨by decide +kernel, rfl⟩
theorem d14_62 : DAt B14 62 (.istore 5) 2 64 := ⟨by decide +kernel, rfl⟩
theorem d14_64 : DAt B14 64 (.goto 9) 3 67 := ⟨by decide +kernel, rfl⟩
theorem d14_67 : DAt B14 67 (.iinc 6 1) 3 70 := ⟨by decide +kernel, rfl⟩
theorem d14_70 : DAt B14 70 (.goto (-51)) 3 73 := ⟨by decide +kernel, rfl⟩
theorem d14_73 : DAt B14 73 (.iload 4) 2 75 := ⟨by decide +kernel, rfl⟩
theorem d14_75 : DAt B14 75 (.ifCond .ge 6) 3 78 := ⟨by decide +kernel, rfl⟩
theorem d14_78 : DAt B14 78 (.goto 21) 3 81 := ⟨by decide +kernel, rfl⟩
theorem d14_81 : DAt B14 81 (.aload_n 0) 1 82 := ⟨by decide +kernel, rfl⟩
theorem d14_82 : DAt B14 82 (.iload_n 1) 1 83 := ⟨by decide +kernel, rfl⟩
theorem d14_83 : DAt B14 83 (.iload 4) 2 85 := ⟨by decide +kernel, rfl⟩
theorem d14_85 : DAt B14 85 (.iload 5) 2 87 := ⟨by decide +kernel, rfl⟩
theorem d14_87 : DAt B14 87 (.invokevirtual 64) 3 90 := ⟨by decide +kernel, rfl⟩
theorem d14_90 : DAt B14 90 (.iinc 2 1) 3 93 := ⟨by decide +kernel, rfl⟩
theorem d14_93 : DAt B14 93 (.iinc 3 1) 3 96 := ⟨by decide +kernel, rfl⟩
theorem d14_96 : DAt B14 96 (.goto (-92)) 3 99 := ⟨by decide +kernel, rfl⟩
theorem d14_99 : DAt B14 99 (.iload_n 2) 1 100 := ⟨by decide +kernel, rfl⟩
theorem d14_100 : DAt B14 100 (.ireturn) 1 101 := ⟨by decide +kernel, rfl⟩
def B12 : Bdy := ((⟨"CausalStable", "receive", "(III)I"⟩ : MethodName), prog_1_method_14_code, 6, (some .int), ({ frames := 3, cells := 0, slots := 0, locals := 52 } : Room))
theorem d12_0 : DAt B12 0 (.aload_n 0) 1 1 := ⟨by decide +kernel, rfl⟩
theorem d12_1 : DAt B12 1 (.iload_n 1) 1 2 := ⟨by decide +kernel, rfl⟩
theorem d12_2 : DAt B12 2 (.invokevirtual 68) 3 5 := ⟨by decide +kernel, rfl⟩
theorem d12_5 : DAt B12 5 (.ifCond .eq 12) 3 8 := ⟨by decide +kernel, rfl⟩
theorem d12_8 : DAt B12 8 (.aload_n 0) 1 9 := ⟨by decide +kernel, rfl⟩
theorem d12_9 : DAt B12 9 (.iload_n 2) 1 10 := ⟨by decide +kernel, rfl⟩
theorem d12_10 : DAt B12 10 (.iload_n 3) 1 11 := ⟨by decide +kernel, rfl⟩
theorem d12_11 : DAt B12 11 (.invokevirtual 52) 3 14 := ⟨by decide +kernel, rfl⟩
theorem d12_14 : DAt B12 14 (.ifCond .ne 5) 3 17 := ⟨by decide +kernel, rfl⟩
theorem d12_17 : DAt B12 17 (.iconst (-1)) 1 18 := ⟨by decide +kernel, rfl⟩
theorem d12_18 : DAt B12 18 (.ireturn) 1 19 := ⟨by decide +kernel, rfl⟩
theorem d12_19 : DAt B12 19 (.aload_n 0) 1 20 := ⟨by decide +kernel, rfl⟩
theorem d12_20 : DAt B12 20 (.getfield 13) 3 23 := ⟨by decide +kernel, rfl⟩
theorem d12_23 : DAt B12 23 (.iload_n 1) 1 24 := ⟨by decide +kernel, rfl⟩
theorem d12_24 : DAt B12 24 (.baload) 1 25 := ⟨by decide +kernel, rfl⟩
theorem d12_25 : DAt B12 25 (.ifCond .eq 6) 3 28 := ⟨by decide +kernel, rfl⟩
theorem d12_28 : DAt B12 28 (.bipush (-2)) 2 30 := ⟨by decide +kernel, rfl⟩
theorem d12_30 : DAt B12 30 (.ireturn) 1 31 := ⟨by decide +kernel, rfl⟩
theorem d12_31 : DAt B12 31 (.aload_n 0) 1 32 := ⟨by decide +kernel, rfl⟩
theorem d12_32 : DAt B12 32 (.iload_n 2) 1 33 := ⟨by decide +kernel, rfl⟩
theorem d12_33 : DAt B12 33 (.iload_n 3) 1 34 := ⟨by decide +kernel, rfl⟩
theorem d12_34 : DAt B12 34 (.iload_n 1) 1 35 := ⟨by decide +kernel, rfl⟩
theorem d12_35 : DAt B12 35 (.invokevirtual 72) 3 38 := ⟨by decide +kernel, rfl⟩
theorem d12_38 : DAt B12 38 (.istore 4) 2 40 := ⟨by decide +kernel, rfl⟩
theorem d12_40 : DAt B12 40 (.aload_n 0) 1 41 := ⟨by decide +kernel, rfl⟩
theorem d12_41 : DAt B12 41 (.getfield 26) 3 44 := ⟨by decide +kernel, rfl⟩
theorem d12_44 : DAt B12 44 (.iload 4) 2 46 := ⟨by decide +kernel, rfl⟩
theorem d12_46 : DAt B12 46 (.iaload) 1 47 := ⟨by decide +kernel, rfl⟩
theorem d12_47 : DAt B12 47 (.ifCond .ne 6) 3 50 := ⟨by decide +kernel, rfl⟩
theorem d12_50 : DAt B12 50 (.bipush (-4)) 2 52 := ⟨by decide +kernel, rfl⟩
theorem d12_52 : DAt B12 52 (.ireturn) 1 53 := ⟨by decide +kernel, rfl⟩
theorem d12_53 : DAt B12 53 (.aload_n 0) 1 54 := ⟨by decide +kernel, rfl⟩
theorem d12_54 : DAt B12 54 (.getfield 26) 3 57 := ⟨by decide +kernel, rfl⟩
theorem d12_57 : DAt B12 57 (.iload 4) 2 59 := ⟨by decide +kernel, rfl⟩
theorem d12_59 : DAt B12 59 (.aload_n 0) 1 60 := ⟨by decide +kernel, rfl⟩
theorem d12_60 : DAt B12 60 (.getfield 26) 3 63 := ⟨by decide +kernel, rfl⟩
theorem d12_63 : DAt B12 63 (.iload 4) 2 65 := ⟨by decide +kernel, rfl⟩
theorem d12_65 : DAt B12 65 (.iaload) 1 66 := ⟨by decide +kernel, rfl⟩
theorem d12_66 : DAt B12 66 (.iconst 1) 1 67 := ⟨by decide +kernel, rfl⟩
theorem d12_67 : DAt B12 67 (.isub) 1 68 := ⟨by decide +kernel, rfl⟩
theorem d12_68 : DAt B12 68 (.iastore) 1 69 := ⟨by decide +kernel, rfl⟩
theorem d12_69 : DAt B12 69 (.aload_n 0) 1 70 := ⟨by decide +kernel, rfl⟩
theorem d12_70 : DAt B12 70 (.iload_n 1) 1 71 := ⟨by decide +kernel, rfl⟩
theorem d12_71 : DAt B12 71 (.iload_n 2) 1 72 := ⟨by decide +kernel, rfl⟩
theorem d12_72 : DAt B12 72 (.iload_n 3) 1 73 := ⟨by decide +kernel, rfl⟩
theorem d12_73 : DAt B12 73 (.invokevirtual 45) 3 76 := ⟨by decide +kernel, rfl⟩
theorem d12_76 : DAt B12 76 (.istore 5) 2 78 := ⟨by decide +kernel, rfl⟩
theorem d12_78 : DAt B12 78 (.aload_n 0) 1 79 := ⟨by decide +kernel, rfl⟩
theorem d12_79 : DAt B12 79 (.getfield 20) 3 82 := ⟨by decide +kernel, rfl⟩
theorem d12_82 : DAt B12 82 (.iload 5) 2 84 := ⟨by decide +kernel, rfl⟩
theorem d12_84 : DAt B12 84 (.iaload) 1 85 := ⟨by decide +kernel, rfl⟩
theorem d12_85 : DAt B12 85 (.ifCond .eq 6) 3 88 := ⟨by decide +kernel, rfl⟩
theorem d12_88 : DAt B12 88 (.bipush (-5)) 2 90 := ⟨by decide +kernel, rfl⟩
theorem d12_90 : DAt B12 90 (.ireturn) 1 91 := ⟨by decide +kernel, rfl⟩
theorem d12_91 : DAt B12 91 (.aload_n 0) 1 92 := ⟨by decide +kernel, rfl⟩
theorem d12_92 : DAt B12 92 (.getfield 20) 3 95 := ⟨by decide +kernel, rfl⟩
theorem d12_95 : DAt B12 95 (.iload 5) 2 97 := ⟨by decide +kernel, rfl⟩
theorem d12_97 : DAt B12 97 (.iconst 1) 1 98 := ⟨by decide +kernel, rfl⟩
theorem d12_98 : DAt B12 98 (.iastore) 1 99 := ⟨by decide +kernel, rfl⟩
theorem d12_99 : DAt B12 99 (.aload_n 0) 1 100 := ⟨by decide +kernel, rfl⟩
theorem d12_100 : DAt B12 100 (.iload_n 1) 1 101 := ⟨by decide +kernel, rfl⟩
theorem d12_101 : DAt B12 101 (.invokevirtual 75) 3 104 := ⟨by decide +kernel, rfl⟩
theorem d12_104 : DAt B12 104 (.ireturn) 1 105 := ⟨by decide +kernel, rfl⟩
def B16 : Bdy := ((⟨"CausalStable", "state", "(III)I"⟩ : MethodName), prog_1_method_24_code, 5, (some .int), ({ frames := 1, cells := 0, slots := 0, locals := 15 } : Room))
theorem d16_0 : DAt B16 0 (.aload_n 0) 1 1 := ⟨by decide +kernel, rfl⟩
theorem d16_1 : DAt B16 1 (.iload_n 1) 1 2 := ⟨by decide +kernel, rfl⟩
theorem d16_2 : DAt B16 2 (.invokevirtual 68) 3 5 := ⟨by decide +kernel, rfl⟩
theorem d16_5 : DAt B16 5 (.ifCond .eq 12) 3 8 := ⟨by decide +kernel, rfl⟩
theorem d16_8 : DAt B16 8 (.aload_n 0) 1 9 := ⟨by decide +kernel, rfl⟩
theorem d16_9 : DAt B16 9 (.iload_n 2) 1 10 := ⟨by decide +kernel, rfl⟩
theorem d16_10 : DAt B16 10 (.iload_n 3) 1 11 := ⟨by decide +kernel, rfl⟩
theorem d16_11 : DAt B16 11 (.invokevirtual 52) 3 14 := ⟨by decide +kernel, rfl⟩
theorem d16_14 : DAt B16 14 (.ifCond .ne 5) 3 17 := ⟨by decide +kernel, rfl⟩
theorem d16_17 : DAt B16 17 (.iconst (-1)) 1 18 := ⟨by decide +kernel, rfl⟩
theorem d16_18 : DAt B16 18 (.ireturn) 1 19 := ⟨by decide +kernel, rfl⟩
theorem d16_19 : DAt B16 19 (.aload_n 0) 1 20 := ⟨by decide +kernel, rfl⟩
theorem d16_20 : DAt B16 20 (.iload_n 1) 1 21 := ⟨by decide +kernel, rfl⟩
theorem d16_21 : DAt B16 21 (.iload_n 2) 1 22 := ⟨by decide +kernel, rfl⟩
theorem d16_22 : DAt B16 22 (.iload_n 3) 1 23 := ⟨by decide +kernel, rfl⟩
theorem d16_23 : DAt B16 23 (.invokevirtual 45) 3 26 := ⟨by decide +kernel, rfl⟩
theorem d16_26 : DAt B16 26 (.istore 4) 2 28 := ⟨by decide +kernel, rfl⟩
theorem d16_28 : DAt B16 28 (.aload_n 0) 1 29 := ⟨by decide +kernel, rfl⟩
theorem d16_29 : DAt B16 29 (.getfield 20) 3 32 := ⟨by decide +kernel, rfl⟩
theorem d16_32 : DAt B16 32 (.iload 4) 2 34 := ⟨by decide +kernel, rfl⟩
theorem d16_34 : DAt B16 34 (.iaload) 1 35 := ⟨by decide +kernel, rfl⟩
theorem d16_35 : DAt B16 35 (.ireturn) 1 36 := ⟨by decide +kernel, rfl⟩
def B17 : Bdy := ((⟨"CausalStable", "isCrashed", "(I)Z"⟩ : MethodName), prog_1_method_28_code, 2, (some .boolean), ({ frames := 1, cells := 0, slots := 0, locals := 13 } : Room))
theorem d17_0 : DAt B17 0 (.aload_n 0) 1 1 := ⟨by decide +kernel, rfl⟩
theorem d17_1 : DAt B17 1 (.iload_n 1) 1 2 := ⟨by decide +kernel, rfl⟩
theorem d17_2 : DAt B17 2 (.invokevirtual 68) 3 5 := ⟨by decide +kernel, rfl⟩
theorem d17_5 : DAt B17 5 (.ifCond .ne 5) 3 8 := ⟨by decide +kernel, rfl⟩
theorem d17_8 : DAt B17 8 (.iconst 0) 1 9 := ⟨by decide +kernel, rfl⟩
theorem d17_9 : DAt B17 9 (.ireturn) 1 10 := ⟨by decide +kernel, rfl⟩
theorem d17_10 : DAt B17 10 (.aload_n 0) 1 11 := ⟨by decide +kernel, rfl⟩
theorem d17_11 : DAt B17 11 (.getfield 13) 3 14 := ⟨by decide +kernel, rfl⟩
theorem d17_14 : DAt B17 14 (.iload_n 1) 1 15 := ⟨by decide +kernel, rfl⟩
theorem d17_15 : DAt B17 15 (.baload) 1 16 := ⟨by decide +kernel, rfl⟩
theorem d17_16 : DAt B17 16 (.ireturn) 1 17 := ⟨by decide +kernel, rfl⟩
def B3 : Bdy := ((⟨"CausalStable", "drop", "(III)I"⟩ : MethodName), prog_1_method_16_code, 5, (some .int), ({ frames := 1, cells := 0, slots := 0, locals := 15 } : Room))
theorem d3_0 : DAt B3 0 (.aload_n 0) 1 1 := ⟨by decide +kernel, rfl⟩
theorem d3_1 : DAt B3 1 (.iload_n 1) 1 2 := ⟨by decide +kernel, rfl⟩
theorem d3_2 : DAt B3 2 (.iload_n 2) 1 3 := ⟨by decide +kernel, rfl⟩
theorem d3_3 : DAt B3 3 (.invokevirtual 52) 3 6 := ⟨by decide +kernel, rfl⟩
theorem d3_6 : DAt B3 6 (.ifCond .eq 11) 3 9 := ⟨by decide +kernel, rfl⟩
theorem d3_9 : DAt B3 9 (.aload_n 0) 1 10 := ⟨by decide +kernel, rfl⟩
theorem d3_10 : DAt B3 10 (.iload_n 3) 1 11 := ⟨by decide +kernel, rfl⟩
theorem d3_11 : DAt B3 11 (.invokevirtual 68) 3 14 := ⟨by decide +kernel, rfl⟩
theorem d3_14 : DAt B3 14 (.ifCond .ne 5) 3 17 := ⟨by decide +kernel, rfl⟩
theorem d3_17 : DAt B3 17 (.iconst (-1)) 1 18 := ⟨by decide +kernel, rfl⟩
theorem d3_18 : DAt B3 18 (.ireturn) 1 19 := ⟨by decide +kernel, rfl⟩
theorem d3_19 : DAt B3 19 (.aload_n 0) 1 20 := ⟨by decide +kernel, rfl⟩
theorem d3_20 : DAt B3 20 (.iload_n 1) 1 21 := ⟨by decide +kernel, rfl⟩
theorem d3_21 : DAt B3 21 (.iload_n 2) 1 22 := ⟨by decide +kernel, rfl⟩
theorem d3_22 : DAt B3 22 (.iload_n 3) 1 23 := ⟨by decide +kernel, rfl⟩
theorem d3_23 : DAt B3 23 (.invokevirtual 72) 3 26 := ⟨by decide +kernel, rfl⟩
theorem d3_26 : DAt B3 26 (.istore 4) 2 28 := ⟨by decide +kernel, rfl⟩
theorem d3_28 : DAt B3 28 (.aload_n 0) 1 29 := ⟨by decide +kernel, rfl⟩
theorem d3_29 : DAt B3 29 (.getfield 26) 3 32 := ⟨by decide +kernel, rfl⟩
theorem d3_32 : DAt B3 32 (.iload 4) 2 34 := ⟨by decide +kernel, rfl⟩
theorem d3_34 : DAt B3 34 (.iaload) 1 35 := ⟨by decide +kernel, rfl⟩
theorem d3_35 : DAt B3 35 (.ifCond .ne 6) 3 38 := ⟨by decide +kernel, rfl⟩
theorem d3_38 : DAt B3 38 (.bipush (-4)) 2 40 := ⟨by decide +kernel, rfl⟩
theorem d3_40 : DAt B3 40 (.ireturn) 1 41 := ⟨by decide +kernel, rfl⟩
theorem d3_41 : DAt B3 41 (.aload_n 0) 1 42 := ⟨by decide +kernel, rfl⟩
theorem d3_42 : DAt B3 42 (.getfield 26) 3 45 := ⟨by decide +kernel, rfl⟩
theorem d3_45 : DAt B3 45 (.iload 4) 2 47 := ⟨by decide +kernel, rfl⟩
theorem d3_47 : DAt B3 47 (.aload_n 0) 1 48 := ⟨by decide +kernel, rfl⟩
theorem d3_48 : DAt B3 48 (.getfield 26) 3 51 := ⟨by decide +kernel, rfl⟩
theorem d3_51 : DAt B3 51 (.iload 4) 2 53 := ⟨by decide +kernel, rfl⟩
theorem d3_53 : DAt B3 53 (.iaload) 1 54 := ⟨by decide +kernel, rfl⟩
theorem d3_54 : DAt B3 54 (.iconst 1) 1 55 := ⟨by decide +kernel, rfl⟩
theorem d3_55 : DAt B3 55 (.isub) 1 56 := ⟨by decide +kernel, rfl⟩
theorem d3_56 : DAt B3 56 (.iastore) 1 57 := ⟨by decide +kernel, rfl⟩
theorem d3_57 : DAt B3 57 (.aload_n 0) 1 58 := ⟨by decide +kernel, rfl⟩
theorem d3_58 : DAt B3 58 (.getfield 26) 3 61 := ⟨by decide +kernel, rfl⟩
theorem d3_61 : DAt B3 61 (.iload 4) 2 63 := ⟨by decide +kernel, rfl⟩
theorem d3_63 : DAt B3 63 (.iaload) 1 64 := ⟨by decide +kernel, rfl⟩
theorem d3_64 : DAt B3 64 (.ireturn) 1 65 := ⟨by decide +kernel, rfl⟩
def B5 : Bdy := ((⟨"CausalStable", "broadcast", "(I)I"⟩ : MethodName), prog_1_method_13_code, 5, (some .int), ({ frames := 2, cells := 0, slots := 0, locals := 33 } : Room))
theorem d5_0 : DAt B5 0 (.aload_n 0) 1 1 := ⟨by decide +kernel, rfl⟩
theorem d5_1 : DAt B5 1 (.iload_n 1) 1 2 := ⟨by decide +kernel, rfl⟩
theorem d5_2 : DAt B5 2 (.invokevirtual 68) 3 5 := ⟨by decide +kernel, rfl⟩
theorem d5_5 : DAt B5 5 (.ifCond .ne 5) 3 8 := ⟨by decide +kernel, rfl⟩
theorem d5_8 : DAt B5 8 (.iconst (-1)) 1 9 := ⟨by decide +kernel, rfl⟩
theorem d5_9 : DAt B5 9 (.ireturn) 1 10 := ⟨by decide +kernel, rfl⟩
theorem d5_10 : DAt B5 10 (.aload_n 0) 1 11 := ⟨by decide +kernel, rfl⟩
theorem d5_11 : DAt B5 11 (.getfield 13) 3 14 := ⟨by decide +kernel, rfl⟩
theorem d5_14 : DAt B5 14 (.iload_n 1) 1 15 := ⟨by decide +kernel, rfl⟩
theorem d5_15 : DAt B5 15 (.baload) 1 16 := ⟨by decide +kernel, rfl⟩
theorem d5_16 : DAt B5 16 (.ifCond .eq 6) 3 19 := ⟨by decide +kernel, rfl⟩
theorem d5_19 : DAt B5 19 (.bipush (-2)) 2 21 := ⟨by decide +kernel, rfl⟩
theorem d5_21 : DAt B5 21 (.ireturn) 1 22 := ⟨by decide +kernel, rfl⟩
theorem d5_22 : DAt B5 22 (.aload_n 0) 1 23 := ⟨by decide +kernel, rfl⟩
theorem d5_23 : DAt B5 23 (.getfield 7) 3 26 := ⟨by decide +kernel, rfl⟩
theorem d5_26 : DAt B5 26 (.iload_n 1) 1 27 := ⟨by decide +kernel, rfl⟩
theorem d5_27 : DAt B5 27 (.iaload) 1 28 := ⟨by decide +kernel, rfl⟩
theorem d5_28 : DAt B5 28 (.aload_n 0) 1 29 := ⟨by decide +kernel, rfl⟩
theorem d5_29 : DAt B5 29 (.getfield 42) 3 32 := ⟨by decide +kernel, rfl⟩
theorem d5_32 : DAt B5 32 (.if_icmp .lt 6) 3 35 := ⟨by decide +kernel, rfl⟩
theorem d5_35 : DAt B5 35 (.bipush (-3)) 2 37 := ⟨by decide +kernel, rfl⟩
theorem d5_37 : DAt B5 37 (.ireturn) 1 38 := ⟨by decide +kernel, rfl⟩
theorem d5_38 : DAt B5 38 (.aload_n 0) 1 39 := ⟨by decide +kernel, rfl⟩
theorem d5_39 : DAt B5 39 (.getfield 7) 3 42 := ⟨by decide +kernel, rfl⟩
theorem d5_42 : DAt B5 42 (.iload_n 1) 1 43 := ⟨by decide +kernel, rfl⟩
theorem d5_43 : DAt B5 43 (.iaload) 1 44 := ⟨by decide +kernel, rfl⟩
theorem d5_44 : DAt B5 44 (.iconst 1) 1 45 := ⟨by decide +kernel, rfl⟩
theorem d5_45 : DAt B5 45 (.iadd) 1 46 := ⟨by decide +kernel, rfl⟩
theorem d5_46 : DAt B5 46 (.istore_n 2) 1 47 := ⟨by decide +kernel, rfl⟩
theorem d5_47 : DAt B5 47 (.aload_n 0) 1 48 := ⟨by decide +kernel, rfl⟩
theorem d5_48 : DAt B5 48 (.getfield 7) 3 51 := ⟨by decide +kernel, rfl⟩
theorem d5_51 : DAt B5 51 (.iload_n 1) 1 52 := ⟨by decide +kernel, rfl⟩
theorem d5_52 : DAt B5 52 (.iload_n 2) 1 53 := ⟨by decide +kernel, rfl⟩
theorem d5_53 : DAt B5 53 (.iastore) 1 54 := ⟨by decide +kernel, rfl⟩
theorem d5_54 : DAt B5 54 (.aload_n 0) 1 55 := ⟨by decide +kernel, rfl⟩
theorem d5_55 : DAt B5 55 (.iload_n 1) 1 56 := ⟨by decide +kernel, rfl⟩
theorem d5_56 : DAt B5 56 (.iload_n 2) 1 57 := ⟨by decide +kernel, rfl⟩
theorem d5_57 : DAt B5 57 (.invokevirtual 56) 3 60 := ⟨by decide +kernel, rfl⟩
theorem d5_60 : DAt B5 60 (.istore_n 3) 1 61 := ⟨by decide +kernel, rfl⟩
theorem d5_61 : DAt B5 61 (.iconst 0) 1 62 := ⟨by decide +kernel, rfl⟩
theorem d5_62 : DAt B5 62 (.istore 4) 2 64 := ⟨by decide +kernel, rfl⟩
theorem d5_64 : DAt B5 64 (.iload 4) 2 66 := ⟨by decide +kernel, rfl⟩
theorem d5_66 : DAt B5 66 (.aload_n 0) 1 67 := ⟨by decide +kernel, rfl⟩
theorem d5_67 : DAt B5 67 (.getfield 38) 3 70 := ⟨by decide +kernel, rfl⟩
theorem d5_70 : DAt B5 70 (.if_icmp .ge 33) 3 73 := ⟨by decide +kernel, rfl⟩
theorem d5_73 : DAt B5 73 (.aload_n 0) 1 74 := ⟨by decide +kernel, rfl⟩
theorem d5_74 : DAt B5 74 (.getfield 23) 3 77 := ⟨by decide +kernel, rfl⟩
theorem d5_77 : DAt B5 77 (.iload_n 3) 1 78 := ⟨by decide +kernel, rfl⟩
theorem d5_78 : DAt B5 78 (.bipush 8) 2 80 := ⟨by decide +kernel, rfl⟩
theorem d5_80 : DAt B5 80 (.imul) 1 81 := ⟨by decide +kernel, rfl⟩
theorem d5_81 : DAt B5 81 (.iload 4) 2 83 := ⟨by decide +kernel, rfl⟩
theorem d5_83 : DAt B5 83 (.iadd) 1 84 := ⟨by decide +kernel, rfl⟩
theorem d5_84 : DAt B5 84 (.aload_n 0) 1 85 := ⟨by decide +kernel, rfl⟩
theorem d5_85 : DAt B5 85 (.getfield 17) 3 88 := ⟨by decide +kernel, rfl⟩
theorem d5_88 : DAt B5 88 (.iload_n 1) 1 89 := ⟨by decide +kernel, rfl⟩
theorem d5_89 : DAt B5 89 (.bipush 8) 2 91 := ⟨by decide +kernel, rfl⟩
theorem d5_91 : DAt B5 91 (.imul) 1 92 := ⟨by decide +kernel, rfl⟩
theorem d5_92 : DAt B5 92 (.iload 4) 2 94 := ⟨by decide +kernel, rfl⟩
theorem d5_94 : DAt B5 94 (.iadd) 1 95 := ⟨by decide +kernel, rfl⟩
theorem d5_95 : DAt B5 95 (.iaload) 1 96 := ⟨by decide +kernel, rfl⟩
theorem d5_96 : DAt B5 96 (.iastore) 1 97 := ⟨by decide +kernel, rfl⟩
theorem d5_97 : DAt B5 97 (.iinc 4 1) 3 100 := ⟨by decide +kernel, rfl⟩
theorem d5_100 : DAt B5 100 (.goto (-36)) 3 103 := ⟨by decide +kernel, rfl⟩
theorem d5_103 : DAt B5 103 (.aload_n 0) 1 104 := ⟨by decide +kernel, rfl⟩
theorem d5_104 : DAt B5 104 (.getfield 23) 3 107 := ⟨by decide +kernel, rfl⟩
theorem d5_107 : DAt B5 107 (.iload_n 3) 1 108 := ⟨by decide +kernel, rfl⟩
theorem d5_108 : DAt B5 108 (.bipush 8) 2 110 := ⟨by decide +kernel, rfl⟩
theorem d5_110 : DAt B5 110 (.imul) 1 111 := ⟨by decide +kernel, rfl⟩
theorem d5_111 : DAt B5 111 (.iload_n 1) 1 112 := ⟨by decide +kernel, rfl⟩
theorem d5_112 : DAt B5 112 (.iadd) 1 113 := ⟨by decide +kernel, rfl⟩
theorem d5_113 : DAt B5 113 (.iload_n 2) 1 114 := ⟨by decide +kernel, rfl⟩
theorem d5_114 : DAt B5 114 (.iastore) 1 115 := ⟨by decide +kernel, rfl⟩
theorem d5_115 : DAt B5 115 (.aload_n 0) 1 116 := ⟨by decide +kernel, rfl⟩
theorem d5_116 : DAt B5 116 (.iload_n 1) 1 117 := ⟨by decide +kernel, rfl⟩
theorem d5_117 : DAt B5 117 (.iload_n 1) 1 118 := ⟨by decide +kernel, rfl⟩
theorem d5_118 : DAt B5 118 (.iload_n 2) 1 119 := ⟨by decide +kernel, rfl⟩
theorem d5_119 : DAt B5 119 (.invokevirtual 64) 3 122 := ⟨by decide +kernel, rfl⟩
theorem d5_122 : DAt B5 122 (.iconst 0) 1 123 := ⟨by decide +kernel, rfl⟩
theorem d5_123 : DAt B5 123 (.istore 4) 2 125 := ⟨by decide +kernel, rfl⟩
theorem d5_125 : DAt B5 125 (.iload 4) 2 127 := ⟨by decide +kernel, rfl⟩
theorem d5_127 : DAt B5 127 (.aload_n 0) 1 128 := ⟨by decide +kernel, rfl⟩
theorem d5_128 : DAt B5 128 (.getfield 38) 3 131 := ⟨by decide +kernel, rfl⟩
theorem d5_131 : DAt B5 131 (.if_icmp .ge 32) 3 134 := ⟨by decide +kernel, rfl⟩
theorem d5_134 : DAt B5 134 (.aload_n 0) 1 135 := ⟨by decide +kernel, rfl⟩
theorem d5_135 : DAt B5 135 (.getfield 26) 3 138 := ⟨by decide +kernel, rfl⟩
theorem d5_138 : DAt B5 138 (.iload_n 3) 1 139 := ⟨by decide +kernel, rfl⟩
theorem d5_139 : DAt B5 139 (.bipush 8) 2 141 := ⟨by decide +kernel, rfl⟩
theorem d5_141 : DAt B5 141 (.imul) 1 142 := ⟨by decide +kernel, rfl⟩
theorem d5_142 : DAt B5 142 (.iload 4) 2 144 := ⟨by decide +kernel, rfl⟩
theorem d5_144 : DAt B5 144 (.iadd) 1 145 := ⟨by decide +kernel, rfl⟩
theorem d5_145 : DAt B5 145 (.iload 4) 2 147 := ⟨by decide +kernel, rfl⟩
theorem d5_147 : DAt B5 147 (.iload_n 1) 1 148 := ⟨by decide +kernel, rfl⟩
theorem d5_148 : DAt B5 148 (.if_icmp .ne 7) 3 151 := ⟨by decide +kernel, rfl⟩
theorem d5_151 : DAt B5 151 (.iconst 0) 1 152 := ⟨by decide +kernel, rfl⟩
theorem d5_152 : DAt B5 152 (.goto 4) 3 155 := ⟨by decide +kernel, rfl⟩
theorem d5_155 : DAt B5 155 (.iconst 1) 1 156 := ⟨by decide +kernel, rfl⟩
theorem d5_156 : DAt B5 156 (.iastore) 1 157 := ⟨by decide +kernel, rfl⟩
theorem d5_157 : DAt B5 157 (.iinc 4 1) 3 160 := ⟨by decide +kernel, rfl⟩
theorem d5_160 : DAt B5 160 (.goto (-35)) 3 163 := ⟨by decide +kernel, rfl⟩
theorem d5_163 : DAt B5 163 (.iload_n 2) 1 164 := ⟨by decide +kernel, rfl⟩
theorem d5_164 : DAt B5 164 (.ireturn) 1 165 := ⟨by decide +kernel, rfl⟩
def B11 : Bdy := ((⟨"CausalStable", "duplicate", "(III)I"⟩ : MethodName), prog_1_method_15_code, 5, (some .int), ({ frames := 1, cells := 0, slots := 0, locals := 15 } : Room))
theorem d11_0 : DAt B11 0 (.aload_n 0) 1 1 := ⟨by decide +kernel, rfl⟩
theorem d11_1 : DAt B11 1 (.iload_n 1) 1 2 := ⟨by decide +kernel, rfl⟩
theorem d11_2 : DAt B11 2 (.iload_n 2) 1 3 := ⟨by decide +kernel, rfl⟩
theorem d11_3 : DAt B11 3 (.invokevirtual 52) 3 6 := ⟨by decide +kernel, rfl⟩
theorem d11_6 : DAt B11 6 (.ifCond .eq 11) 3 9 := ⟨by decide +kernel, rfl⟩
theorem d11_9 : DAt B11 9 (.aload_n 0) 1 10 := ⟨by decide +kernel, rfl⟩
theorem d11_10 : DAt B11 10 (.iload_n 3) 1 11 := ⟨by decide +kernel, rfl⟩
theorem d11_11 : DAt B11 11 (.invokevirtual 68) 3 14 := ⟨by decide +kernel, rfl⟩
theorem d11_14 : DAt B11 14 (.ifCond .ne 5) 3 17 := ⟨by decide +kernel, rfl⟩
theorem d11_17 : DAt B11 17 (.iconst (-1)) 1 18 := ⟨by decide +kernel, rfl⟩
theorem d11_18 : DAt B11 18 (.ireturn) 1 19 := ⟨by decide +kernel, rfl⟩
theorem d11_19 : DAt B11 19 (.aload_n 0) 1 20 := ⟨by decide +kernel, rfl⟩
theorem d11_20 : DAt B11 20 (.iload_n 1) 1 21 := ⟨by decide +kernel, rfl⟩
theorem d11_21 : DAt B11 21 (.iload_n 2) 1 22 := ⟨by decide +kernel, rfl⟩
theorem d11_22 : DAt B11 22 (.iload_n 3) 1 23 := ⟨by decide +kernel, rfl⟩
theorem d11_23 : DAt B11 23 (.invokevirtual 72) 3 26 := ⟨by decide +kernel, rfl⟩
theorem d11_26 : DAt B11 26 (.istore 4) 2 28 := ⟨by decide +kernel, rfl⟩
theorem d11_28 : DAt B11 28 (.aload_n 0) 1 29 := ⟨by decide +kernel, rfl⟩
theorem d11_29 : DAt B11 29 (.getfield 26) 3 32 := ⟨by decide +kernel, rfl⟩
theorem d11_32 : DAt B11 32 (.iload 4) 2 34 := ⟨by decide +kernel, rfl⟩
theorem d11_34 : DAt B11 34 (.iaload) 1 35 := ⟨by decide +kernel, rfl⟩
theorem d11_35 : DAt B11 35 (.ifCond .ne 6) 3 38 := ⟨by decide +kernel, rfl⟩
theorem d11_38 : DAt B11 38 (.bipush (-4)) 2 40 := ⟨by decide +kernel, rfl⟩
theorem d11_40 : DAt B11 40 (.ireturn) 1 41 := ⟨by decide +kernel, rfl⟩
theorem d11_41 : DAt B11 41 (.aload_n 0) 1 42 := ⟨by decide +kernel, rfl⟩
theorem d11_42 : DAt B11 42 (.getfield 26) 3 45 := ⟨by decide +kernel, rfl⟩
theorem d11_45 : DAt B11 45 (.iload 4) 2 47 := ⟨by decide +kernel, rfl⟩
theorem d11_47 : DAt B11 47 (.iaload) 1 48 := ⟨by decide +kernel, rfl⟩
theorem d11_48 : DAt B11 48 (.iconst 3) 1 49 := ⟨by decide +kernel, rfl⟩
theorem d11_49 : DAt B11 49 (.if_icmp .lt 6) 3 52 := ⟨by decide +kernel, rfl⟩
theorem d11_52 : DAt B11 52 (.bipush (-3)) 2 54 := ⟨by decide +kernel, rfl⟩
theorem d11_54 : DAt B11 54 (.ireturn) 1 55 := ⟨by decide +kernel, rfl⟩
theorem d11_55 : DAt B11 55 (.aload_n 0) 1 56 := ⟨by decide +kernel, rfl⟩
theorem d11_56 : DAt B11 56 (.getfield 26) 3 59 := ⟨by decide +kernel, rfl⟩
theorem d11_59 : DAt B11 59 (.iload 4) 2 61 := ⟨by decide +kernel, rfl⟩
theorem d11_61 : DAt B11 61 (.aload_n 0) 1 62 := ⟨by decide +kernel, rfl⟩
theorem d11_62 : DAt B11 62 (.getfield 26) 3 65 := ⟨by decide +kernel, rfl⟩
theorem d11_65 : DAt B11 65 (.iload 4) 2 67 := ⟨by decide +kernel, rfl⟩
theorem d11_67 : DAt B11 67 (.iaload) 1 68 := ⟨by decide +kernel, rfl⟩
theorem d11_68 : DAt B11 68 (.iconst 1) 1 69 := ⟨by decide +kernel, rfl⟩
theorem d11_69 : DAt B11 69 (.iadd) 1 70 := ⟨by decide +kernel, rfl⟩
theorem d11_70 : DAt B11 70 (.iastore) 1 71 := ⟨by decide +kernel, rfl⟩
theorem d11_71 : DAt B11 71 (.aload_n 0) 1 72 := ⟨by decide +kernel, rfl⟩
theorem d11_72 : DAt B11 72 (.getfield 26) 3 75 := ⟨by decide +kernel, rfl⟩
theorem d11_75 : DAt B11 75 (.iload 4) 2 77 := ⟨by decide +kernel, rfl⟩
theorem d11_77 : DAt B11 77 (.iaload) 1 78 := ⟨by decide +kernel, rfl⟩
theorem d11_78 : DAt B11 78 (.ireturn) 1 79 := ⟨by decide +kernel, rfl⟩
def B26 : Bdy := ((⟨"CausalStable", "retransmit", "(IIII)I"⟩ : MethodName), prog_1_method_17_code, 7, (some .int), ({ frames := 1, cells := 0, slots := 0, locals := 15 } : Room))
theorem d26_0 : DAt B26 0 (.aload_n 0) 1 1 := ⟨by decide +kernel, rfl⟩
theorem d26_1 : DAt B26 1 (.iload_n 1) 1 2 := ⟨by decide +kernel, rfl⟩
theorem d26_2 : DAt B26 2 (.invokevirtual 68) 3 5 := ⟨by decide +kernel, rfl⟩
theorem d26_5 : DAt B26 5 (.ifCond .eq 26) 3 8 := ⟨by decide +kernel, rfl⟩
theorem d26_8 : DAt B26 8 (.aload_n 0) 1 9 := ⟨by decide +kernel, rfl⟩
theorem d26_9 : DAt B26 9 (.iload_n 2) 1 10 := ⟨by decide +kernel, rfl⟩
theorem d26_10 : DAt B26 10 (.invokevirtual 68) 3 13 := ⟨by decide +kernel, rfl⟩
theorem d26_13 : DAt B26 13 (.ifCond .eq 18) 3 16 := ⟨by decide +kernel, rfl⟩
theorem d26_16 : DAt B26 16 (.iload_n 1) 1 17 := ⟨by decide +kernel, rfl⟩
theorem d26_17 : DAt B26 17 (.iload_n 2) 1 18 := ⟨by decide +kernel, rfl⟩
theorem d26_18 : DAt B26 18 (.if_icmp .eq 13) 3 21 := ⟨by decide +kernel, rfl⟩
theorem d26_21 : DAt B26 21 (.aload_n 0) 1 22 := ⟨by decide +kernel, rfl⟩
theorem d26_22 : DAt B26 22 (.iload_n 3) 1 23 := ⟨by decide +kernel, rfl⟩
theorem d26_23 : DAt B26 23 (.iload 4) 2 25 := ⟨by decide +kernel, rfl⟩
theorem d26_25 : DAt B26 25 (.invokevirtual 52) 3 28 := ⟨by decide +kernel, rfl⟩
theorem d26_28 : DAt B26 28 (.ifCond .ne 5) 3 31 := ⟨by decide +kernel, rfl⟩
theorem d26_31 : DAt B26 31 (.iconst (-1)) 1 32 := ⟨by decide +kernel, rfl⟩
theorem d26_32 : DAt B26 32 (.ireturn) 1 33 := ⟨by decide +kernel, rfl⟩
theorem d26_33 : DAt B26 33 (.aload_n 0) 1 34 := ⟨by decide +kernel, rfl⟩
theorem d26_34 : DAt B26 34 (.getfield 13) 3 37 := ⟨by decide +kernel, rfl⟩
theorem d26_37 : DAt B26 37 (.iload_n 1) 1 38 := ⟨by decide +kernel, rfl⟩
theorem d26_38 : DAt B26 38 (.baload) 1 39 := ⟨by decide +kernel, rfl⟩
theorem d26_39 : DAt B26 39 (.ifCond .ne 12) 3 42 := ⟨by decide +kernel, rfl⟩
theorem d26_42 : DAt B26 42 (.aload_n 0) 1 43 := ⟨by decide +kernel, rfl⟩
theorem d26_43 : DAt B26 43 (.getfield 13) 3 46 := ⟨by decide +kernel, rfl⟩
theorem d26_46 : DAt B26 46 (.iload_n 2) 1 47 := ⟨by decide +kernel, rfl⟩
theorem d26_47 : DAt B26 47 (.baload) 1 48 := ⟨by decide +kernel, rfl⟩
theorem d26_48 : DAt B26 48 (.ifCond .eq 6) 3 51 := ⟨by decide +kernel, rfl⟩
theorem d26_51 : DAt B26 51 (.bipush (-2)) 2 53 := ⟨by decide +kernel, rfl⟩
theorem d26_53 : DAt B26 53 (.ireturn) 1 54 := ⟨by decide +kernel, rfl⟩
theorem d26_54 : DAt B26 54 (.aload_n 0) 1 55 := ⟨by decide +kernel, rfl⟩
theorem d26_55 : DAt B26 55 (.iload_n 1) 1 56 := ⟨by decide +kernel, rfl⟩
theorem d26_56 : DAt B26 56 (.iload_n 3) 1 57 := ⟨by decide +kernel, rfl⟩
theorem d26_57 : DAt B26 57 (.iload 4) 2 59 := ⟨by decide +kernel, rfl⟩
theorem d26_59 : DAt B26 59 (.invokevirtual 45) 3 62 := ⟨by decide +kernel, rfl⟩
theorem d26_62 : DAt B26 62 (.istore 5) 2 64 := ⟨by decide +kernel, rfl⟩
theorem d26_64 : DAt B26 64 (.aload_n 0) 1 65 := ⟨by decide +kernel, rfl⟩
theorem d26_65 : DAt B26 65 (.getfield 20) 3 68 := ⟨by decide +kernel, rfl⟩
theorem d26_68 : DAt B26 68 (.iload 5) 2 70 := ⟨by decide +kernel, rfl⟩
theorem d26_70 : DAt B26 70 (.iaload) 1 71 := ⟨by decide +kernel, rfl⟩
theorem d26_71 : DAt B26 71 (.iconst 2) 1 72 := ⟨by decide +kernel, rfl⟩
theorem d26_72 : DAt B26 72 (.if_icmp .eq 6) 3 75 := ⟨by decide +kernel, rfl⟩
theorem d26_75 : DAt B26 75 (.bipush (-6)) 2 77 := ⟨by decide +kernel, rfl⟩
theorem d26_77 : DAt B26 77 (.ireturn) 1 78 := ⟨by decide +kernel, rfl⟩
theorem d26_78 : DAt B26 78 (.aload_n 0) 1 79 := ⟨by decide +kernel, rfl⟩
theorem d26_79 : DAt B26 79 (.iload_n 3) 1 80 := ⟨by decide +kernel, rfl⟩
theorem d26_80 : DAt B26 80 (.iload 4) 2 82 := ⟨by decide +kernel, rfl⟩
theorem d26_82 : DAt B26 82 (.iload_n 2) 1 83 := ⟨by decide +kernel, rfl⟩
theorem d26_83 : DAt B26 83 (.invokevirtual 72) 3 86 := ⟨by decide +kernel, rfl⟩
theorem d26_86 : DAt B26 86 (.istore 6) 2 88 := ⟨by decide +kernel, rfl⟩
theorem d26_88 : DAt B26 88 (.aload_n 0) 1 89 := ⟨by decide +kernel, rfl⟩
theorem d26_89 : DAt B26 89 (.getfield 26) 3 92 := ⟨by decide +kernel, rfl⟩
theorem d26_92 : DAt B26 92 (.iload 6) 2 94 := ⟨by decide +kernel, rfl⟩
theorem d26_94 : DAt B26 94 (.iaload) 1 95 := ⟨by decide +kernel, rfl⟩
theorem d26_95 : DAt B26 95 (.iconst 3) 1 96 := ⟨by decide +kernel, rfl⟩
theorem d26_96 : DAt B26 96 (.if_icmp .lt 6) 3 99 := ⟨by decide +kernel, rfl⟩
theorem d26_99 : DAt B26 99 (.bipush (-3)) 2 101 := ⟨by decide +kernel, rfl⟩
theorem d26_101 : DAt B26 101 (.ireturn) 1 102 := ⟨by decide +kernel, rfl⟩
theorem d26_102 : DAt B26 102 (.aload_n 0) 1 103 := ⟨by decide +kernel, rfl⟩
theorem d26_103 : DAt B26 103 (.getfield 26) 3 106 := ⟨by decide +kernel, rfl⟩
theorem d26_106 : DAt B26 106 (.iload 6) 2 108 := ⟨by decide +kernel, rfl⟩
theorem d26_108 : DAt B26 108 (.aload_n 0) 1 109 := ⟨by decide +kernel, rfl⟩
theorem d26_109 : DAt B26 109 (.getfield 26) 3 112 := ⟨by decide +kernel, rfl⟩
theorem d26_112 : DAt B26 112 (.iload 6) 2 114 := ⟨by decide +kernel, rfl⟩
theorem d26_114 : DAt B26 114 (.iaload) 1 115 := ⟨by decide +kernel, rfl⟩
theorem d26_115 : DAt B26 115 (.iconst 1) 1 116 := ⟨by decide +kernel, rfl⟩
theorem d26_116 : DAt B26 116 (.iadd) 1 117 := ⟨by decide +kernel, rfl⟩
theorem d26_117 : DAt B26 117 (.iastore) 1 118 := ⟨by decide +kernel, rfl⟩
theorem d26_118 : DAt B26 118 (.iconst 0) 1 119 := ⟨by decide +kernel, rfl⟩
theorem d26_119 : DAt B26 119 (.ireturn) 1 120 := ⟨by decide +kernel, rfl⟩
def B28 : Bdy := ((⟨"CausalStable", "gossip", "(II)I"⟩ : MethodName), prog_1_method_18_code, 7, (some .int), ({ frames := 1, cells := 0, slots := 0, locals := 13 } : Room))
theorem d28_0 : DAt B28 0 (.aload_n 0) 1 1 := ⟨by decide +kernel, rfl⟩
theorem d28_1 : DAt B28 1 (.iload_n 1) 1 2 := ⟨by decide +kernel, rfl⟩
theorem d28_2 : DAt B28 2 (.invokevirtual 68) 3 5 := ⟨by decide +kernel, rfl⟩
theorem d28_5 : DAt B28 5 (.ifCond .eq 16) 3 8 := ⟨by decide +kernel, rfl⟩
theorem d28_8 : DAt B28 8 (.aload_n 0) 1 9 := ⟨by decide +kernel, rfl⟩
theorem d28_9 : DAt B28 9 (.iload_n 2) 1 10 := ⟨by decide +kernel, rfl⟩
theorem d28_10 : DAt B28 10 (.invokevirtual 68) 3 13 := ⟨by decide +kernel, rfl⟩
theorem d28_13 : DAt B28 13 (.ifCond .eq 8) 3 16 := ⟨by decide +kernel, rfl⟩
theorem d28_16 : DAt B28 16 (.iload_n 1) 1 17 := ⟨by decide +kernel, rfl⟩
theorem d28_17 : DAt B28 17 (.iload_n 2) 1 18 := ⟨by decide +kernel, rfl⟩
theorem d28_18 : DAt B28 18 (.if_icmp .ne 5) 3 21 := ⟨by decide +kernel, rfl⟩
theorem d28_21 : DAt B28 21 (.iconst (-1)) 1 22 := ⟨by decide +kernel, rfl⟩
theorem d28_22 : DAt B28 22 (.ireturn) 1 23 := ⟨by decide +kernel, rfl⟩
theorem d28_23 : DAt B28 23 (.aload_n 0) 1 24 := ⟨by decide +kernel, rfl⟩
theorem d28_24 : DAt B28 24 (.getfield 13) 3 27 := ⟨by decide +kernel, rfl⟩
theorem d28_27 : DAt B28 27 (.iload_n 1) 1 28 := ⟨by decide +kernel, rfl⟩
theorem d28_28 : DAt B28 28 (.baload) 1 29 := ⟨by decide +kernel, rfl⟩
theorem d28_29 : DAt B28 29 (.ifCond .ne 12) 3 32 := ⟨by decide +kernel, rfl⟩
theorem d28_32 : DAt B28 32 (.aload_n 0) 1 33 := ⟨by decide +kernel, rfl⟩
theorem d28_33 : DAt B28 33 (.getfield 13) 3 36 := ⟨by decide +kernel, rfl⟩
theorem d28_36 : DAt B28 36 (.iload_n 2) 1 37 := ⟨by decide +kernel, rfl⟩
theorem d28_37 : DAt B28 37 (.baload) 1 38 := ⟨by decide +kernel, rfl⟩
theorem d28_38 : DAt B28 38 (.ifCond .eq 6) 3 41 := ⟨by decide +kernel, rfl⟩
theorem d28_41 : DAt B28 41 (.bipush (-2)) 2 43 := ⟨by decide +kernel, rfl⟩
theorem d28_43 : DAt B28 43 (.ireturn) 1 44 := ⟨by decide +kernel, rfl⟩
theorem d28_44 : DAt B28 44 (.iconst 0) 1 45 := ⟨by decide +kernel, rfl⟩
theorem d28_45 : DAt B28 45 (.istore_n 3) 1 46 := ⟨by decide +kernel, rfl⟩
theorem d28_46 : DAt B28 46 (.iload_n 3) 1 47 := ⟨by decide +kernel, rfl⟩
theorem d28_47 : DAt B28 47 (.aload_n 0) 1 48 := ⟨by decide +kernel, rfl⟩
theorem d28_48 : DAt B28 48 (.getfield 38) 3 51 := ⟨by decide +kernel, rfl⟩
theorem d28_51 : DAt B28 51 (.if_icmp .ge 86) 3 54 := ⟨by decide +kernel, rfl⟩
theorem d28_54 : DAt B28 54 (.iconst 0) 1 55 := ⟨by decide +kernel, rfl⟩
theorem d28_55 : DAt B28 55 (.istore 4) 2 57 := ⟨by decide +kernel, rfl⟩
theorem d28_57 : DAt B28 57 (.iload 4) 2 59 := ⟨by decide +kernel, rfl⟩
theorem d28_59 : DAt B28 59 (.aload_n 0) 1 60 := ⟨by decide +kernel, rfl⟩
theorem d28_60 : DAt B28 60 (.getfield 38) 3 63 := ⟨by decide +kernel, rfl⟩
theorem d28_63 : DAt B28 63 (.if_icmp .ge 68) 3 66 := ⟨by decide +kernel, rfl⟩
theorem d28_66 : DAt B28 66 (.iload_n 2) 1 67 := ⟨by decide +kernel, rfl⟩
theorem d28_67 : DAt B28 67 (.bipush 64) 2 69 := ⟨by decide +kernel, rfl⟩
theorem d28_69 : DAt B28 69 (.imul) 1 70 := ⟨by decide +kernel, rfl⟩
theorem d28_70 : DAt B28 70 (.iload_n 3) 1 71 := ⟨by decide +kernel, rfl⟩
theorem d28_71 : DAt B28 71 (.bipush 8) 2 73 := ⟨by decide +kernel, rfl⟩
theorem d28_73 : DAt B28 73 (.imul) 1 74 := ⟨by decide +kernel, rfl⟩
theorem d28_74 : DAt B28 74 (.iadd) 1 75 := ⟨by decide +kernel, rfl⟩
theorem d28_75 : DAt B28 75 (.iload 4) 2 77 := ⟨by decide +kernel, rfl⟩
theorem d28_77 : DAt B28 77 (.iadd) 1 78 := ⟨by decide +kernel, rfl⟩
theorem d28_78 : DAt B28 78 (.istore 5) 2 80 := ⟨by decide +kernel, rfl⟩
theorem d28_80 : DAt B28 80 (.iload_n 1) 1 81 := ⟨by decide +kernel, rfl⟩
theorem d28_81 : DAt B28 81 (.bipush 64) 2 83 := ⟨by decide +kernel, rfl⟩
theorem d28_83 : DAt B28 83 (.imul) 1 84 := ⟨by decide +kernel, rfl⟩
theorem d28_84 : DAt B28 84 (.iload_n 3) 1 85 := ⟨by decide +kernel, rfl⟩
theorem d28_85 : DAt B28 85 (.bipush 8) 2 87 := ⟨by decide +kernel, rfl⟩
theorem d28_87 : DAt B28 87 (.imul) 1 88 := ⟨by decide +kernel, rfl⟩
theorem d28_88 : DAt B28 88 (.iadd) 1 89 := ⟨by decide +kernel, rfl⟩
theorem d28_89 : DAt B28 89 (.iload 4) 2 91 := ⟨by decide +kernel, rfl⟩
theorem d28_91 : DAt B28 91 (.iadd) 1 92 := ⟨by decide +kernel, rfl⟩
theorem d28_92 : DAt B28 92 (.istore 6) 2 94 := ⟨by decide +kernel, rfl⟩
theorem d28_94 : DAt B28 94 (.aload_n 0) 1 95 := ⟨by decide +kernel, rfl⟩
theorem d28_95 : DAt B28 95 (.getfield 29) 3 98 := ⟨by decide +kernel, rfl⟩
theorem d28_98 : DAt B28 98 (.iload 6) 2 100 := ⟨by decide +kernel, rfl⟩
theorem d28_100 : DAt B28 100 (.iaload) 1 101 := ⟨by decide +kernel, rfl⟩
theorem d28_101 : DAt B28 101 (.aload_n 0) 1 102 := ⟨by decide +kernel, rfl⟩
theorem d28_102 : DAt B28 102 (.getfield 29) 3 105 := ⟨by decide +kernel, rfl⟩
theorem d28_105 : DAt B28 105 (.iload 5) 2 107 := ⟨by decide +kernel, rfl⟩
theorem d28_107 : DAt B28 107 (.iaload) 1 108 := ⟨by decide +kernel, rfl⟩
theorem d28_108 : DAt B28 108 (.if_icmp .le 17) 3 111 := ⟨by decide +kernel, rfl⟩
theorem d28_111 : DAt B28 111 (.aload_n 0) 1 112 := ⟨by decide +kernel, rfl⟩
theorem d28_112 : DAt B28 112 (.getfield 29) 3 115 := ⟨by decide +kernel, rfl⟩
theorem d28_115 : DAt B28 115 (.iload 5) 2 117 := ⟨by decide +kernel, rfl⟩
theorem d28_117 : DAt B28 117 (.aload_n 0) 1 118 := ⟨by decide +kernel, rfl⟩
theorem d28_118 : DAt B28 118 (.getfield 29) 3 121 := ⟨by decide +kernel, rfl⟩
theorem d28_121 : DAt B28 121 (.iload 6) 2 123 := ⟨by decide +kernel, rfl⟩
theorem d28_123 : DAt B28 123 (.iaload) 1 124 := ⟨by decide +kernel, rfl⟩
theorem d28_124 : DAt B28 124 (.iastore) 1 125 := ⟨by decide +kernel, rfl⟩
theorem d28_125 : DAt B28 125 (.iinc 4 1) 3 128 := ⟨by decide +kernel, rfl⟩
theorem d28_128 : DAt B28 128 (.goto (-71)) 3 131 := ⟨by decide +kernel, rfl⟩
theorem d28_131 : DAt B28 131 (.iinc 3 1) 3 134 := ⟨by decide +kernel, rfl⟩
theorem d28_134 : DAt B28 134 (.goto (-88)) 3 137 := ⟨by decide +kernel, rfl⟩
theorem d28_137 : DAt B28 137 (.iconst 0) 1 138 := ⟨by decide +kernel, rfl⟩
theorem d28_138 : DAt B28 138 (.ireturn) 1 139 := ⟨by decide +kernel, rfl⟩
def B30 : Bdy := ((⟨"CausalStable", "isStable", "(III)Z"⟩ : MethodName), prog_1_method_11_code, 6, (some .boolean), ({ frames := 1, cells := 0, slots := 0, locals := 15 } : Room))
theorem d30_0 : DAt B30 0 (.iconst 0) 1 1 := ⟨by decide +kernel, rfl⟩
theorem d30_1 : DAt B30 1 (.istore 4) 2 3 := ⟨by decide +kernel, rfl⟩
theorem d30_3 : DAt B30 3 (.iload 4) 2 5 := ⟨by decide +kernel, rfl⟩
theorem d30_5 : DAt B30 5 (.aload_n 0) 1 6 := ⟨by decide +kernel, rfl⟩
theorem d30_6 : DAt B30 6 (.getfield 38) 3 9 := ⟨by decide +kernel, rfl⟩
theorem d30_9 : DAt B30 9 (.if_icmp .ge 42) 3 12 := ⟨by decide +kernel, rfl⟩
theorem d30_12 : DAt B30 12 (.aload_n 0) 1 13 := ⟨by decide +kernel, rfl⟩
theorem d30_13 : DAt B30 13 (.getfield 13) 3 16 := ⟨by decide +kernel, rfl⟩
theorem d30_16 : DAt B30 16 (.iload 4) 2 18 := ⟨by decide +kernel, rfl⟩
theorem d30_18 : DAt B30 18 (.baload) 1 19 := ⟨by decide +kernel, rfl⟩
theorem d30_19 : DAt B30 19 (.ifCond .ne 26) 3 22 := ⟨by decide +kernel, rfl⟩
theorem d30_22 : DAt B30 22 (.aload_n 0) 1 23 := ⟨by decide +kernel, rfl⟩
theorem d30_23 : DAt B30 23 (.iload_n 1) 1 24 := ⟨by decide +kernel, rfl⟩
theorem d30_24 : DAt B30 24 (.iload 4) 2 26 := ⟨by decide +kernel, rfl⟩
theorem d30_26 : DAt B30 26 (.iload_n 2) 1 27 := ⟨by decide +kernel, rfl⟩
theorem d30_27 : DAt B30 27 (.invokevirtual 49) 3 30 := ⟨by decide +kernel, rfl⟩
theorem d30_30 : DAt B30 30 (.istore 5) 2 32 := ⟨by decide +kernel, rfl⟩
theorem d30_32 : DAt B30 32 (.aload_n 0) 1 33 := ⟨by decide +kernel, rfl⟩
theorem d30_33 : DAt B30 33 (.getfield 29) 3 36 := ⟨by decide +kernel, rfl⟩
theorem d30_36 : DAt B30 36 (.iload 5) 2 38 := ⟨by decide +kernel, rfl⟩
theorem d30_38 : DAt B30 38 (.iaload) 1 39 := ⟨by decide +kernel, rfl⟩
theorem d30_39 : DAt B30 39 (.iload_n 3) 1 40 := ⟨by decide +kernel, rfl⟩
theorem d30_40 : DAt B30 40 (.if_icmp .ge 5) 3 43 := ⟨by decide +kernel, rfl⟩
theorem d30_43 : DAt B30 43 (.iconst 0) 1 44 := ⟨by decide +kernel, rfl⟩
theorem d30_44 : DAt B30 44 (.ireturn) 1 45 := ⟨by decide +kernel, rfl⟩
theorem d30_45 : DAt B30 45 (.iinc 4 1) 3 48 := ⟨by decide +kernel, rfl⟩
theorem d30_48 : DAt B30 48 (.goto (-45)) 3 51 := ⟨by decide +kernel, rfl⟩
theorem d30_51 : DAt B30 51 (.iconst 1) 1 52 := ⟨by decide +kernel, rfl⟩
theorem d30_52 : DAt B30 52 (.ireturn) 1 53 := ⟨by decide +kernel, rfl⟩
def B25 : Bdy := ((⟨"CausalStable", "prune", "(I)I"⟩ : MethodName), prog_1_method_19_code, 7, (some .int), ({ frames := 2, cells := 0, slots := 0, locals := 32 } : Room))
theorem d25_0 : DAt B25 0 (.aload_n 0) 1 1 := ⟨by decide +kernel, rfl⟩
theorem d25_1 : DAt B25 1 (.iload_n 1) 1 2 := ⟨by decide +kernel, rfl⟩
theorem d25_2 : DAt B25 2 (.invokevirtual 68) 3 5 := ⟨by decide +kernel, rfl⟩
theorem d25_5 : DAt B25 5 (.ifCond .ne 5) 3 8 := ⟨by decide +kernel, rfl⟩
theorem d25_8 : DAt B25 8 (.iconst (-1)) 1 9 := ⟨by decide +kernel, rfl⟩
theorem d25_9 : DAt B25 9 (.ireturn) 1 10 := ⟨by decide +kernel, rfl⟩
theorem d25_10 : DAt B25 10 (.aload_n 0) 1 11 := ⟨by decide +kernel, rfl⟩
theorem d25_11 : DAt B25 11 (.getfield 13) 3 14 := ⟨by decide +kernel, rfl⟩
theorem d25_14 : DAt B25 14 (.iload_n 1) 1 15 := ⟨by decide +kernel, rfl⟩
theorem d25_15 : DAt B25 15 (.baload) 1 16 := ⟨by decide +kernel, rfl⟩
theorem d25_16 : DAt B25 16 (.ifCond .eq 6) 3 19 := ⟨by decide +kernel, rfl⟩
theorem d25_19 : DAt B25 19 (.bipush (-2)) 2 21 := ⟨by decide +kernel, rfl⟩
theorem d25_21 : DAt B25 21 (.ireturn) 1 22 := ⟨by decide +kernel, rfl⟩
theorem d25_22 : DAt B25 22 (.iconst 0) 1 23 := ⟨by decide +kernel, rfl⟩
theorem d25_23 : DAt B25 23 (.istore_n 2) 1 24 := ⟨by decide +kernel, rfl⟩
theorem d25_24 : DAt B25 24 (.iconst 0) 1 25 := ⟨by decide +kernel, rfl⟩
theorem d25_25 : DAt B25 25 (.istore_n 3) 1 26 := ⟨by decide +kernel, rfl⟩
theorem d25_26 : DAt B25 26 (.iload_n 3) 1 27 := ⟨by decide +kernel, rfl⟩
theorem d25_27 : DAt B25 27 (.aload_n 0) 1 28 := ⟨by decide +kernel, rfl⟩
theorem d25_28 : DAt B25 28 (.getfield 38) 3 31 := ⟨by decide +kernel, rfl⟩
theorem d25_31 : DAt B25 31 (.if_icmp .ge 83) 3 34 := ⟨by decide +kernel, rfl⟩
theorem d25_34 : DAt B25 34 (.aload_n 0) 1 35 := ⟨by decide +kernel, rfl⟩
theorem d25_35 : DAt B25 35 (.getfield 7) 3 38 := ⟨by decide +kernel, rfl⟩
theorem d25_38 : DAt B25 38 (.iload_n 3) 1 39 := ⟨by decide +kernel, rfl⟩
theorem d25_39 : DAt B25 39 (.iaload) 1 40 := ⟨by decide +kernel, rfl⟩
theorem d25_40 : DAt B25 40 (.istore 4) 2 42 := ⟨by decide +kernel, rfl⟩
theorem d25_42 : DAt B25 42 (.iconst 1) 1 43 := ⟨by decide +kernel, rfl⟩
theorem d25_43 : DAt B25 43 (.istore 5) 2 45 := ⟨by decide +kernel, rfl⟩
theorem d25_45 : DAt B25 45 (.iload 5) 2 47 := ⟨by decide +kernel, rfl⟩
theorem d25_47 : DAt B25 47 (.iload 4) 2 49 := ⟨by decide +kernel, rfl⟩
theorem d25_49 : DAt B25 49 (.if_icmp .gt 59) 3 52 := ⟨by decide +kernel, rfl⟩
theorem d25_52 : DAt B25 52 (.iload 5) 2 54 := ⟨by decide +kernel, rfl⟩
theorem d25_54 : DAt B25 54 (.bipush 8) 2 56 := ⟨by decide +kernel, rfl⟩
theorem d25_56 : DAt B25 56 (.if_icmp .gt 52) 3 59 := ⟨by decide +kernel, rfl⟩
theorem d25_59 : DAt B25 59 (.aload_n 0) 1 60 := ⟨by decide +kernel, rfl⟩
theorem d25_60 : DAt B25 60 (.iload_n 1) 1 61 := ⟨by decide +kernel, rfl⟩
theorem d25_61 : DAt B25 61 (.iload_n 3) 1 62 := ⟨by decide +kernel, rfl⟩
theorem d25_62 : DAt B25 62 (.iload 5) 2 64 := ⟨by decide +kernel, rfl⟩
theorem d25_64 : DAt B25 64 (.invokevirtual 45) 3 67 := ⟨by decide +kernel, rfl⟩
theorem d25_67 : DAt B25 67 (.istore 6) 2 69 := ⟨by decide +kernel, rfl⟩
theorem d25_69 : DAt B25 69 (.aload_n 0) 1 70 := ⟨by decide +kernel, rfl⟩
theorem d25_70 : DAt B25 70 (.getfield 20) 3 73 := ⟨by decide +kernel, rfl⟩
theorem d25_73 : DAt B25 73 (.iload 6) 2 75 := ⟨by decide +kernel, rfl⟩
theorem d25_75 : DAt B25 75 (.iaload) 1 76 := ⟨by decide +kernel, rfl⟩
theorem d25_76 : DAt B25 76 (.iconst 2) 1 77 := ⟨by decide +kernel, rfl⟩
theorem d25_77 : DAt B25 77 (.if_icmp .ne 25) 3 80 := ⟨by decide +kernel, rfl⟩
theorem d25_80 : DAt B25 80 (.aload_n 0) 1 81 := ⟨by decide +kernel, rfl⟩
theorem d25_81 : DAt B25 81 (.iload_n 1) 1 82 := ⟨by decide +kernel, rfl⟩
theorem d25_82 : DAt B25 82 (.iload_n 3) 1 83 := ⟨by decide +kernel, rfl⟩
theorem d25_83 : DAt B25 83 (.iload 5) 2 85 := ⟨by decide +kernel, rfl⟩
theorem d25_85 : DAt B25 85 (.invokevirtual 79) 3 88 := ⟨by decide +kernel, rfl⟩
theorem d25_88 : DAt B25 88 (.ifCond .eq 14) 3 91 := ⟨by decide +kernel, rfl⟩
theorem d25_91 : DAt B25 91 (.aload_n 0) 1 92 := ⟨by decide +kernel, rfl⟩
theorem d25_92 : DAt B25 92 (.getfield 20) 3 95 := ⟨by decide +kernel, rfl⟩
theorem d25_95 : DAt B25 95 (.iload 6) 2 97 := ⟨by decide +kernel, rfl⟩
theorem d25_97 : DAt B25 97 (.iconst 3) 1 98 := ⟨by decide +kernel, rfl⟩
theorem d25_98 : DAt B25 98 (.iastore) 1 99 := ⟨by decide +kernel, rfl⟩
theorem d25_99 : DAt B25 99 (.iinc 2 1) 3 102 := ⟨by decide +kernel, rfl⟩
theorem d25_102 : DAt B25 102 (.iinc 5 1) 3 105 := ⟨by decide +kernel, rfl⟩
theorem d25_105 : DAt B25 105 (.goto (-60)) 3 108 := ⟨by decide +kernel, rfl⟩
theorem d25_108 : DAt B25 108 (.iinc 3 1) 3 111 := ⟨by decide +kernel, rfl⟩
theorem d25_111 : DAt B25 111 (.goto (-85)) 3 114 := ⟨by decide +kernel, rfl⟩
theorem d25_114 : DAt B25 114 (.iload_n 2) 1 115 := ⟨by decide +kernel, rfl⟩
theorem d25_115 : DAt B25 115 (.ireturn) 1 116 := ⟨by decide +kernel, rfl⟩
def B29 : Bdy := ((⟨"CausalStable", "othersAllCrashed", "(I)Z"⟩ : MethodName), prog_1_method_12_code, 3, (some .boolean), ({ frames := 0, cells := 0, slots := 0, locals := 0 } : Room))
theorem d29_0 : DAt B29 0 (.iconst 0) 1 1 := ⟨by decide +kernel, rfl⟩
theorem d29_1 : DAt B29 1 (.istore_n 2) 1 2 := ⟨by decide +kernel, rfl⟩
theorem d29_2 : DAt B29 2 (.iload_n 2) 1 3 := ⟨by decide +kernel, rfl⟩
theorem d29_3 : DAt B29 3 (.aload_n 0) 1 4 := ⟨by decide +kernel, rfl⟩
theorem d29_4 : DAt B29 4 (.getfield 38) 3 7 := ⟨by decide +kernel, rfl⟩
theorem d29_7 : DAt B29 7 (.if_icmp .ge 25) 3 10 := ⟨by decide +kernel, rfl⟩
theorem d29_10 : DAt B29 10 (.iload_n 2) 1 11 := ⟨by decide +kernel, rfl⟩
theorem d29_11 : DAt B29 11 (.iload_n 1) 1 12 := ⟨by decide +kernel, rfl⟩
theorem d29_12 : DAt B29 12 (.if_icmp .eq 14) 3 15 := ⟨by decide +kernel, rfl⟩
theorem d29_15 : DAt B29 15 (.aload_n 0) 1 16 := ⟨by decide +kernel, rfl⟩
theorem d29_16 : DAt B29 16 (.getfield 13) 3 19 := ⟨by decide +kernel, rfl⟩
theorem d29_19 : DAt B29 19 (.iload_n 2) 1 20 := ⟨by decide +kernel, rfl⟩
theorem d29_20 : DAt B29 20 (.baload) 1 21 := ⟨by decide +kernel, rfl⟩
theorem d29_21 : DAt B29 21 (.ifCond .ne 5) 3 24 := ⟨by decide +kernel, rfl⟩
theorem d29_24 : DAt B29 24 (.iconst 0) 1 25 := ⟨by decide +kernel, rfl⟩
theorem d29_25 : DAt B29 25 (.ireturn) 1 26 := ⟨by decide +kernel, rfl⟩
theorem d29_26 : DAt B29 26 (.iinc 2 1) 3 29 := ⟨by decide +kernel, rfl⟩
theorem d29_29 : DAt B29 29 (.goto (-27)) 3 32 := ⟨by decide +kernel, rfl⟩
theorem d29_32 : DAt B29 32 (.iconst 1) 1 33 := ⟨by decide +kernel, rfl⟩
theorem d29_33 : DAt B29 33 (.ireturn) 1 34 := ⟨by decide +kernel, rfl⟩
def B27 : Bdy := ((⟨"CausalStable", "crash", "(I)I"⟩ : MethodName), prog_1_method_20_code, 2, (some .int), ({ frames := 1, cells := 0, slots := 0, locals := 14 } : Room))
theorem d27_0 : DAt B27 0 (.aload_n 0) 1 1 := ⟨by decide +kernel, rfl⟩
theorem d27_1 : DAt B27 1 (.iload_n 1) 1 2 := ⟨by decide +kernel, rfl⟩
theorem d27_2 : DAt B27 2 (.invokevirtual 68) 3 5 := ⟨by decide +kernel, rfl⟩
theorem d27_5 : DAt B27 5 (.ifCond .ne 5) 3 8 := ⟨by decide +kernel, rfl⟩
theorem d27_8 : DAt B27 8 (.iconst (-1)) 1 9 := ⟨by decide +kernel, rfl⟩
theorem d27_9 : DAt B27 9 (.ireturn) 1 10 := ⟨by decide +kernel, rfl⟩
theorem d27_10 : DAt B27 10 (.aload_n 0) 1 11 := ⟨by decide +kernel, rfl⟩
theorem d27_11 : DAt B27 11 (.getfield 13) 3 14 := ⟨by decide +kernel, rfl⟩
theorem d27_14 : DAt B27 14 (.iload_n 1) 1 15 := ⟨by decide +kernel, rfl⟩
theorem d27_15 : DAt B27 15 (.baload) 1 16 := ⟨by decide +kernel, rfl⟩
theorem d27_16 : DAt B27 16 (.ifCond .eq 6) 3 19 := ⟨by decide +kernel, rfl⟩
theorem d27_19 : DAt B27 19 (.bipush (-2)) 2 21 := ⟨by decide +kernel, rfl⟩
theorem d27_21 : DAt B27 21 (.ireturn) 1 22 := ⟨by decide +kernel, rfl⟩
theorem d27_22 : DAt B27 22 (.aload_n 0) 1 23 := ⟨by decide +kernel, rfl⟩
theorem d27_23 : DAt B27 23 (.iload_n 1) 1 24 := ⟨by decide +kernel, rfl⟩
theorem d27_24 : DAt B27 24 (.invokevirtual 82) 3 27 := ⟨by decide +kernel, rfl⟩
theorem d27_27 : DAt B27 27 (.ifCond .eq 6) 3 30 := ⟨by decide +kernel, rfl⟩
theorem d27_30 : DAt B27 30 (.bipush (-7)) 2 32 := ⟨by decide +kernel, rfl⟩
theorem d27_32 : DAt B27 32 (.ireturn) 1 33 := ⟨by decide +kernel, rfl⟩
theorem d27_33 : DAt B27 33 (.aload_n 0) 1 34 := ⟨by decide +kernel, rfl⟩
theorem d27_34 : DAt B27 34 (.getfield 13) 3 37 := ⟨by decide +kernel, rfl⟩
theorem d27_37 : DAt B27 37 (.iload_n 1) 1 38 := ⟨by decide +kernel, rfl⟩
theorem d27_38 : DAt B27 38 (.iconst 1) 1 39 := ⟨by decide +kernel, rfl⟩
theorem d27_39 : DAt B27 39 (.bastore) 1 40 := ⟨by decide +kernel, rfl⟩
theorem d27_40 : DAt B27 40 (.iconst 0) 1 41 := ⟨by decide +kernel, rfl⟩
theorem d27_41 : DAt B27 41 (.ireturn) 1 42 := ⟨by decide +kernel, rfl⟩
def B2 : Bdy := ((⟨"CausalStableL5", "step", "(LCausalStable;IIIII)V"⟩ : MethodName), method_3_code, 6, none, ({ frames := 3, cells := 0, slots := 0, locals := 50 } : Room))
theorem d2_0 : DAt B2 0 (.iload_n 1) 1 1 := ⟨by decide +kernel, rfl⟩
theorem d2_1 : DAt B2 1 (.ifCond .ne 12) 3 4 := ⟨by decide +kernel, rfl⟩
theorem d2_4 : DAt B2 4 (.aload_n 0) 1 5 := ⟨by decide +kernel, rfl⟩
theorem d2_5 : DAt B2 5 (.iload_n 2) 1 6 := ⟨by decide +kernel, rfl⟩
theorem d2_6 : DAt B2 6 (.invokevirtual 36) 3 9 := ⟨by decide +kernel, rfl⟩
theorem d2_9 : DAt B2 9 (.pop) 1 10 := ⟨by decide +kernel, rfl⟩
theorem d2_10 : DAt B2 10 (.goto 98) 3 13 := ⟨by decide +kernel, rfl⟩
theorem d2_13 : DAt B2 13 (.iload_n 1) 1 14 := ⟨by decide +kernel, rfl⟩
theorem d2_14 : DAt B2 14 (.iconst 2) 1 15 := ⟨by decide +kernel, rfl⟩
theorem d2_15 : DAt B2 15 (.if_icmp .ne 15) 3 18 := ⟨by decide +kernel, rfl⟩
theorem d2_18 : DAt B2 18 (.aload_n 0) 1 19 := ⟨by decide +kernel, rfl⟩
theorem d2_19 : DAt B2 19 (.iload_n 2) 1 20 := ⟨by decide +kernel, rfl⟩
theorem d2_20 : DAt B2 20 (.iload_n 3) 1 21 := ⟨by decide +kernel, rfl⟩
theorem d2_21 : DAt B2 21 (.iload 4) 2 23 := ⟨by decide +kernel, rfl⟩
theorem d2_23 : DAt B2 23 (.invokevirtual 40) 3 26 := ⟨by decide +kernel, rfl⟩
theorem d2_26 : DAt B2 26 (.pop) 1 27 := ⟨by decide +kernel, rfl⟩
theorem d2_27 : DAt B2 27 (.goto 81) 3 30 := ⟨by decide +kernel, rfl⟩
theorem d2_30 : DAt B2 30 (.iload_n 1) 1 31 := ⟨by decide +kernel, rfl⟩
theorem d2_31 : DAt B2 31 (.iconst 3) 1 32 := ⟨by decide +kernel, rfl⟩
theorem d2_32 : DAt B2 32 (.if_icmp .ne 15) 3 35 := ⟨by decide +kernel, rfl⟩
theorem d2_35 : DAt B2 35 (.aload_n 0) 1 36 := ⟨by decide +kernel, rfl⟩
theorem d2_36 : DAt B2 36 (.iload_n 2) 1 37 := ⟨by decide +kernel, rfl⟩
theorem d2_37 : DAt B2 37 (.iload_n 3) 1 38 := ⟨by decide +kernel, rfl⟩
theorem d2_38 : DAt B2 38 (.iload 4) 2 40 := ⟨by decide +kernel, rfl⟩
theorem d2_40 : DAt B2 40 (.invokevirtual 23) 3 43 := ⟨by decide +kernel, rfl⟩
theorem d2_43 : DAt B2 43 (.pop) 1 44 := ⟨by decide +kernel, rfl⟩
theorem d2_44 : DAt B2 44 (.goto 64) 3 47 := ⟨by decide +kernel, rfl⟩
theorem d2_47 : DAt B2 47 (.iload_n 1) 1 48 := ⟨by decide +kernel, rfl⟩
theorem d2_48 : DAt B2 48 (.iconst 4) 1 49 := ⟨by decide +kernel, rfl⟩
theorem d2_49 : DAt B2 49 (.if_icmp .ne 17) 3 52 := ⟨by decide +kernel, rfl⟩
theorem d2_52 : DAt B2 52 (.aload_n 0) 1 53 := ⟨by decide +kernel, rfl⟩
theorem d2_53 : DAt B2 53 (.iload_n 2) 1 54 := ⟨by decide +kernel, rfl⟩
theorem d2_54 : DAt B2 54 (.iload_n 3) 1 55 := ⟨by decide +kernel, rfl⟩
theorem d2_55 : DAt B2 55 (.iload 4) 2 57 := ⟨by decide +kernel, rfl⟩
theorem d2_57 : DAt B2 57 (.iload 5) 2 59 := ⟨by decide +kernel, rfl⟩
theorem d2_59 : DAt B2 59 (.invokevirtual 43) 3 62 := ⟨by decide +kernel, rfl⟩
theorem d2_62 : DAt B2 62 (.pop) 1 63 := ⟨by decide +kernel, rfl⟩
theorem d2_63 : DAt B2 63 (.goto 45) 3 66 := ⟨by decide +kernel, rfl⟩
theorem d2_66 : DAt B2 66 (.iload_n 1) 1 67 := ⟨by decide +kernel, rfl⟩
theorem d2_67 : DAt B2 67 (.iconst 5) 1 68 := ⟨by decide +kernel, rfl⟩
theorem d2_68 : DAt B2 68 (.if_icmp .ne 13) 3 71 := ⟨by decide +kernel, rfl⟩
theorem d2_71 : DAt B2 71 (.aload_n 0) 1 72 := ⟨by decide +kernel, rfl⟩
theorem d2_72 : DAt B2 72 (.iload_n 2) 1 73 := ⟨by decide +kernel, rfl⟩
theorem d2_73 : DAt B2 73 (.iload_n 3) 1 74 := ⟨by decide +kernel, rfl⟩
theorem d2_74 : DAt B2 74 (.invokevirtual 47) 3 77 := ⟨by decide +kernel, rfl⟩
theorem d2_77 : DAt B2 77 (.pop) 1 78 := ⟨by decide +kernel, rfl⟩
theorem d2_78 : DAt B2 78 (.goto 30) 3 81 := ⟨by decide +kernel, rfl⟩
theorem d2_81 : DAt B2 81 (.iload_n 1) 1 82 := ⟨by decide +kernel, rfl⟩
theorem d2_82 : DAt B2 82 (.bipush 6) 2 84 := ⟨by decide +kernel, rfl⟩
theorem d2_84 : DAt B2 84 (.if_icmp .ne 12) 3 87 := ⟨by decide +kernel, rfl⟩
theorem d2_87 : DAt B2 87 (.aload_n 0) 1 88 := ⟨by decide +kernel, rfl⟩
theorem d2_88 : DAt B2 88 (.iload_n 2) 1 89 := ⟨by decide +kernel, rfl⟩
theorem d2_89 : DAt B2 89 (.invokevirtual 51) 3 92 := ⟨by decide +kernel, rfl⟩
theorem d2_92 : DAt B2 92 (.pop) 1 93 := ⟨by decide +kernel, rfl⟩
theorem d2_93 : DAt B2 93 (.goto 15) 3 96 := ⟨by decide +kernel, rfl⟩
theorem d2_96 : DAt B2 96 (.iload_n 1) 1 97 := ⟨by decide +kernel, rfl⟩
theorem d2_97 : DAt B2 97 (.bipush 7) 2 99 := ⟨by decide +kernel, rfl⟩
theorem d2_99 : DAt B2 99 (.if_icmp .ne 9) 3 102 := ⟨by decide +kernel, rfl⟩
theorem d2_102 : DAt B2 102 (.aload_n 0) 1 103 := ⟨by decide +kernel, rfl⟩
theorem d2_103 : DAt B2 103 (.iload_n 2) 1 104 := ⟨by decide +kernel, rfl⟩
theorem d2_104 : DAt B2 104 (.invokevirtual 54) 3 107 := ⟨by decide +kernel, rfl⟩
theorem d2_107 : DAt B2 107 (.pop) 1 108 := ⟨by decide +kernel, rfl⟩
theorem d2_108 : DAt B2 108 (.return_) 1 109 := ⟨by decide +kernel, rfl⟩
def B19 : Bdy := ((⟨"CausalStable", "sent", "(I)I"⟩ : MethodName), prog_1_method_21_code, 2, (some .int), ({ frames := 1, cells := 0, slots := 0, locals := 13 } : Room))
theorem d19_0 : DAt B19 0 (.aload_n 0) 1 1 := ⟨by decide +kernel, rfl⟩
theorem d19_1 : DAt B19 1 (.iload_n 1) 1 2 := ⟨by decide +kernel, rfl⟩
theorem d19_2 : DAt B19 2 (.invokevirtual 68) 3 5 := ⟨by decide +kernel, rfl⟩
theorem d19_5 : DAt B19 5 (.ifCond .ne 5) 3 8 := ⟨by decide +kernel, rfl⟩
theorem d19_8 : DAt B19 8 (.iconst (-1)) 1 9 := ⟨by decide +kernel, rfl⟩
theorem d19_9 : DAt B19 9 (.ireturn) 1 10 := ⟨by decide +kernel, rfl⟩
theorem d19_10 : DAt B19 10 (.aload_n 0) 1 11 := ⟨by decide +kernel, rfl⟩
theorem d19_11 : DAt B19 11 (.getfield 7) 3 14 := ⟨by decide +kernel, rfl⟩
theorem d19_14 : DAt B19 14 (.iload_n 1) 1 15 := ⟨by decide +kernel, rfl⟩
theorem d19_15 : DAt B19 15 (.iaload) 1 16 := ⟨by decide +kernel, rfl⟩
theorem d19_16 : DAt B19 16 (.ireturn) 1 17 := ⟨by decide +kernel, rfl⟩
def B20 : Bdy := ((⟨"CausalStable", "deliveredAt", "(II)I"⟩ : MethodName), prog_1_method_26_code, 3, (some .int), ({ frames := 1, cells := 0, slots := 0, locals := 13 } : Room))
theorem d20_0 : DAt B20 0 (.aload_n 0) 1 1 := ⟨by decide +kernel, rfl⟩
theorem d20_1 : DAt B20 1 (.iload_n 1) 1 2 := ⟨by decide +kernel, rfl⟩
theorem d20_2 : DAt B20 2 (.invokevirtual 68) 3 5 := ⟨by decide +kernel, rfl⟩
theorem d20_5 : DAt B20 5 (.ifCond .ne 5) 3 8 := ⟨by decide +kernel, rfl⟩
theorem d20_8 : DAt B20 8 (.iconst (-1)) 1 9 := ⟨by decide +kernel, rfl⟩
theorem d20_9 : DAt B20 9 (.ireturn) 1 10 := ⟨by decide +kernel, rfl⟩
theorem d20_10 : DAt B20 10 (.iload_n 2) 1 11 := ⟨by decide +kernel, rfl⟩
theorem d20_11 : DAt B20 11 (.ifCond .lt 19) 3 14 := ⟨by decide +kernel, rfl⟩
theorem d20_14 : DAt B20 14 (.iload_n 2) 1 15 := ⟨by decide +kernel, rfl⟩
theorem d20_15 : DAt B20 15 (.aload_n 0) 1 16 := ⟨by decide +kernel, rfl⟩
theorem d20_16 : DAt B20 16 (.getfield 35) 3 19 := ⟨by decide +kernel, rfl⟩
theorem d20_19 : DAt B20 19 (.iload_n 1) 1 20 := ⟨by decide +kernel, rfl⟩
theorem d20_20 : DAt B20 20 (.iaload) 1 21 := ⟨by decide +kernel, rfl⟩
theorem d20_21 : DAt B20 21 (.if_icmp .ge 9) 3 24 := ⟨by decide +kernel, rfl⟩
theorem d20_24 : DAt B20 24 (.iload_n 2) 1 25 := ⟨by decide +kernel, rfl⟩
theorem d20_25 : DAt B20 25 (.bipush 64) 2 27 := ⟨by decide +kernel, rfl⟩
theorem d20_27 : DAt B20 27 (.if_icmp .lt 5) 3 30 := ⟨by decide +kernel, rfl⟩
theorem d20_30 : DAt B20 30 (.iconst (-1)) 1 31 := ⟨by decide +kernel, rfl⟩
theorem d20_31 : DAt B20 31 (.ireturn) 1 32 := ⟨by decide +kernel, rfl⟩
theorem d20_32 : DAt B20 32 (.aload_n 0) 1 33 := ⟨by decide +kernel, rfl⟩
theorem d20_33 : DAt B20 33 (.getfield 32) 3 36 := ⟨by decide +kernel, rfl⟩
theorem d20_36 : DAt B20 36 (.iload_n 1) 1 37 := ⟨by decide +kernel, rfl⟩
theorem d20_37 : DAt B20 37 (.bipush 64) 2 39 := ⟨by decide +kernel, rfl⟩
theorem d20_39 : DAt B20 39 (.imul) 1 40 := ⟨by decide +kernel, rfl⟩
theorem d20_40 : DAt B20 40 (.iload_n 2) 1 41 := ⟨by decide +kernel, rfl⟩
theorem d20_41 : DAt B20 41 (.iadd) 1 42 := ⟨by decide +kernel, rfl⟩
theorem d20_42 : DAt B20 42 (.iaload) 1 43 := ⟨by decide +kernel, rfl⟩
theorem d20_43 : DAt B20 43 (.ireturn) 1 44 := ⟨by decide +kernel, rfl⟩
def B21 : Bdy := ((⟨"CausalStable", "delivered", "(II)I"⟩ : MethodName), prog_1_method_25_code, 3, (some .int), ({ frames := 1, cells := 0, slots := 0, locals := 13 } : Room))
theorem d21_0 : DAt B21 0 (.aload_n 0) 1 1 := ⟨by decide +kernel, rfl⟩
theorem d21_1 : DAt B21 1 (.iload_n 1) 1 2 := ⟨by decide +kernel, rfl⟩
theorem d21_2 : DAt B21 2 (.invokevirtual 68) 3 5 := ⟨by decide +kernel, rfl⟩
theorem d21_5 : DAt B21 5 (.ifCond .eq 11) 3 8 := ⟨by decide +kernel, rfl⟩
theorem d21_8 : DAt B21 8 (.aload_n 0) 1 9 := ⟨by decide +kernel, rfl⟩
theorem d21_9 : DAt B21 9 (.iload_n 2) 1 10 := ⟨by decide +kernel, rfl⟩
theorem d21_10 : DAt B21 10 (.invokevirtual 68) 3 13 := ⟨by decide +kernel, rfl⟩
theorem d21_13 : DAt B21 13 (.ifCond .ne 5) 3 16 := ⟨by decide +kernel, rfl⟩
theorem d21_16 : DAt B21 16 (.iconst (-1)) 1 17 := ⟨by decide +kernel, rfl⟩
theorem d21_17 : DAt B21 17 (.ireturn) 1 18 := ⟨by decide +kernel, rfl⟩
theorem d21_18 : DAt B21 18 (.aload_n 0) 1 19 := ⟨by decide +kernel, rfl⟩
theorem d21_19 : DAt B21 19 (.getfield 17) 3 22 := ⟨by decide +kernel, rfl⟩
theorem d21_22 : DAt B21 22 (.iload_n 1) 1 23 := ⟨by decide +kernel, rfl⟩
theorem d21_23 : DAt B21 23 (.bipush 8) 2 25 := ⟨by decide +kernel, rfl⟩
theorem d21_25 : DAt B21 25 (.imul) 1 26 := ⟨by decide +kernel, rfl⟩
theorem d21_26 : DAt B21 26 (.iload_n 2) 1 27 := ⟨by decide +kernel, rfl⟩
theorem d21_27 : DAt B21 27 (.iadd) 1 28 := ⟨by decide +kernel, rfl⟩
theorem d21_28 : DAt B21 28 (.iaload) 1 29 := ⟨by decide +kernel, rfl⟩
theorem d21_29 : DAt B21 29 (.ireturn) 1 30 := ⟨by decide +kernel, rfl⟩
def B22 : Bdy := ((⟨"CausalStable", "known", "(III)I"⟩ : MethodName), prog_1_method_27_code, 5, (some .int), ({ frames := 1, cells := 0, slots := 0, locals := 15 } : Room))
theorem d22_0 : DAt B22 0 (.aload_n 0) 1 1 := ⟨by decide +kernel, rfl⟩
theorem d22_1 : DAt B22 1 (.iload_n 1) 1 2 := ⟨by decide +kernel, rfl⟩
theorem d22_2 : DAt B22 2 (.invokevirtual 68) 3 5 := ⟨by decide +kernel, rfl⟩
theorem d22_5 : DAt B22 5 (.ifCond .eq 19) 3 8 := ⟨by decide +kernel, rfl⟩
theorem d22_8 : DAt B22 8 (.aload_n 0) 1 9 := ⟨by decide +kernel, rfl⟩
theorem d22_9 : DAt B22 9 (.iload_n 2) 1 10 := ⟨by decide +kernel, rfl⟩
theorem d22_10 : DAt B22 10 (.invokevirtual 68) 3 13 := ⟨by decide +kernel, rfl⟩
theorem d22_13 : DAt B22 13 (.ifCond .eq 11) 3 16 := ⟨by decide +kernel, rfl⟩
theorem d22_16 : DAt B22 16 (.aload_n 0) 1 17 := ⟨by decide +kernel, rfl⟩
theorem d22_17 : DAt B22 17 (.iload_n 3) 1 18 := ⟨by decide +kernel, rfl⟩
theorem d22_18 : DAt B22 18 (.invokevirtual 68) 3 21 := ⟨by decide +kernel, rfl⟩
theorem d22_21 : DAt B22 21 (.ifCond .ne 5) 3 24 := ⟨by decide +kernel, rfl⟩
theorem d22_24 : DAt B22 24 (.iconst (-1)) 1 25 := ⟨by decide +kernel, rfl⟩
theorem d22_25 : DAt B22 25 (.ireturn) 1 26 := ⟨by decide +kernel, rfl⟩
theorem d22_26 : DAt B22 26 (.aload_n 0) 1 27 := ⟨by decide +kernel, rfl⟩
theorem d22_27 : DAt B22 27 (.iload_n 1) 1 28 := ⟨by decide +kernel, rfl⟩
theorem d22_28 : DAt B22 28 (.iload_n 2) 1 29 := ⟨by decide +kernel, rfl⟩
theorem d22_29 : DAt B22 29 (.iload_n 3) 1 30 := ⟨by decide +kernel, rfl⟩
theorem d22_30 : DAt B22 30 (.invokevirtual 49) 3 33 := ⟨by decide +kernel, rfl⟩
theorem d22_33 : DAt B22 33 (.istore 4) 2 35 := ⟨by decide +kernel, rfl⟩
theorem d22_35 : DAt B22 35 (.aload_n 0) 1 36 := ⟨by decide +kernel, rfl⟩
theorem d22_36 : DAt B22 36 (.getfield 29) 3 39 := ⟨by decide +kernel, rfl⟩
theorem d22_39 : DAt B22 39 (.iload 4) 2 41 := ⟨by decide +kernel, rfl⟩
theorem d22_41 : DAt B22 41 (.iaload) 1 42 := ⟨by decide +kernel, rfl⟩
theorem d22_42 : DAt B22 42 (.ireturn) 1 43 := ⟨by decide +kernel, rfl⟩
def B23 : Bdy := ((⟨"CausalStable", "copies", "(III)I"⟩ : MethodName), prog_1_method_23_code, 5, (some .int), ({ frames := 1, cells := 0, slots := 0, locals := 15 } : Room))
theorem d23_0 : DAt B23 0 (.aload_n 0) 1 1 := ⟨by decide +kernel, rfl⟩
theorem d23_1 : DAt B23 1 (.iload_n 1) 1 2 := ⟨by decide +kernel, rfl⟩
theorem d23_2 : DAt B23 2 (.iload_n 2) 1 3 := ⟨by decide +kernel, rfl⟩
theorem d23_3 : DAt B23 3 (.invokevirtual 52) 3 6 := ⟨by decide +kernel, rfl⟩
theorem d23_6 : DAt B23 6 (.ifCond .eq 11) 3 9 := ⟨by decide +kernel, rfl⟩
theorem d23_9 : DAt B23 9 (.aload_n 0) 1 10 := ⟨by decide +kernel, rfl⟩
theorem d23_10 : DAt B23 10 (.iload_n 3) 1 11 := ⟨by decide +kernel, rfl⟩
theorem d23_11 : DAt B23 11 (.invokevirtual 68) 3 14 := ⟨by decide +kernel, rfl⟩
theorem d23_14 : DAt B23 14 (.ifCond .ne 5) 3 17 := ⟨by decide +kernel, rfl⟩
theorem d23_17 : DAt B23 17 (.iconst (-1)) 1 18 := ⟨by decide +kernel, rfl⟩
theorem d23_18 : DAt B23 18 (.ireturn) 1 19 := ⟨by decide +kernel, rfl⟩
theorem d23_19 : DAt B23 19 (.aload_n 0) 1 20 := ⟨by decide +kernel, rfl⟩
theorem d23_20 : DAt B23 20 (.iload_n 1) 1 21 := ⟨by decide +kernel, rfl⟩
theorem d23_21 : DAt B23 21 (.iload_n 2) 1 22 := ⟨by decide +kernel, rfl⟩
theorem d23_22 : DAt B23 22 (.iload_n 3) 1 23 := ⟨by decide +kernel, rfl⟩
theorem d23_23 : DAt B23 23 (.invokevirtual 72) 3 26 := ⟨by decide +kernel, rfl⟩
theorem d23_26 : DAt B23 26 (.istore 4) 2 28 := ⟨by decide +kernel, rfl⟩
theorem d23_28 : DAt B23 28 (.aload_n 0) 1 29 := ⟨by decide +kernel, rfl⟩
theorem d23_29 : DAt B23 29 (.getfield 26) 3 32 := ⟨by decide +kernel, rfl⟩
theorem d23_32 : DAt B23 32 (.iload 4) 2 34 := ⟨by decide +kernel, rfl⟩
theorem d23_34 : DAt B23 34 (.iaload) 1 35 := ⟨by decide +kernel, rfl⟩
theorem d23_35 : DAt B23 35 (.ireturn) 1 36 := ⟨by decide +kernel, rfl⟩
def B24 : Bdy := ((⟨"CausalStable", "stamp", "(III)I"⟩ : MethodName), prog_1_method_22_code, 5, (some .int), ({ frames := 1, cells := 0, slots := 0, locals := 14 } : Room))
theorem d24_0 : DAt B24 0 (.aload_n 0) 1 1 := ⟨by decide +kernel, rfl⟩
theorem d24_1 : DAt B24 1 (.iload_n 1) 1 2 := ⟨by decide +kernel, rfl⟩
theorem d24_2 : DAt B24 2 (.iload_n 2) 1 3 := ⟨by decide +kernel, rfl⟩
theorem d24_3 : DAt B24 3 (.invokevirtual 52) 3 6 := ⟨by decide +kernel, rfl⟩
theorem d24_6 : DAt B24 6 (.ifCond .eq 11) 3 9 := ⟨by decide +kernel, rfl⟩
theorem d24_9 : DAt B24 9 (.aload_n 0) 1 10 := ⟨by decide +kernel, rfl⟩
theorem d24_10 : DAt B24 10 (.iload_n 3) 1 11 := ⟨by decide +kernel, rfl⟩
theorem d24_11 : DAt B24 11 (.invokevirtual 68) 3 14 := ⟨by decide +kernel, rfl⟩
theorem d24_14 : DAt B24 14 (.ifCond .ne 5) 3 17 := ⟨by decide +kernel, rfl⟩
theorem d24_17 : DAt B24 17 (.iconst (-1)) 1 18 := ⟨by decide +kernel, rfl⟩
theorem d24_18 : DAt B24 18 (.ireturn) 1 19 := ⟨by decide +kernel, rfl⟩
theorem d24_19 : DAt B24 19 (.aload_n 0) 1 20 := ⟨by decide +kernel, rfl⟩
theorem d24_20 : DAt B24 20 (.iload_n 1) 1 21 := ⟨by decide +kernel, rfl⟩
theorem d24_21 : DAt B24 21 (.iload_n 2) 1 22 := ⟨by decide +kernel, rfl⟩
theorem d24_22 : DAt B24 22 (.invokevirtual 56) 3 25 := ⟨by decide +kernel, rfl⟩
theorem d24_25 : DAt B24 25 (.istore 4) 2 27 := ⟨by decide +kernel, rfl⟩
theorem d24_27 : DAt B24 27 (.aload_n 0) 1 28 := ⟨by decide +kernel, rfl⟩
theorem d24_28 : DAt B24 28 (.getfield 23) 3 31 := ⟨by decide +kernel, rfl⟩
theorem d24_31 : DAt B24 31 (.iload 4) 2 33 := ⟨by decide +kernel, rfl⟩
theorem d24_33 : DAt B24 33 (.bipush 8) 2 35 := ⟨by decide +kernel, rfl⟩
theorem d24_35 : DAt B24 35 (.imul) 1 36 := ⟨by decide +kernel, rfl⟩
theorem d24_36 : DAt B24 36 (.iload_n 3) 1 37 := ⟨by decide +kernel, rfl⟩
theorem d24_37 : DAt B24 37 (.iadd) 1 38 := ⟨by decide +kernel, rfl⟩
theorem d24_38 : DAt B24 38 (.iaload) 1 39 := ⟨by decide +kernel, rfl⟩
theorem d24_39 : DAt B24 39 (.ireturn) 1 40 := ⟨by decide +kernel, rfl⟩
def B18 : Bdy := ((⟨"CausalStableL5", "same", "(LCausalStable;LCausalStable;)Z"⟩ : MethodName), method_4_code, 5, (some .boolean), ({ frames := 2, cells := 0, slots := 0, locals := 32 } : Room))
theorem d18_0 : DAt B18 0 (.iconst 0) 1 1 := ⟨by decide +kernel, rfl⟩
theorem d18_1 : DAt B18 1 (.istore_n 2) 1 2 := ⟨by decide +kernel, rfl⟩
theorem d18_2 : DAt B18 2 (.iload_n 2) 1 3 := ⟨by decide +kernel, rfl⟩
theorem d18_3 : DAt B18 3 (.bipush 8) 2 5 := ⟨by decide +kernel, rfl⟩
theorem d18_5 : DAt B18 5 (.if_icmp .ge 217) 3 8 := ⟨by decide +kernel, rfl⟩
theorem d18_8 : DAt B18 8 (.aload_n 0) 1 9 := ⟨by decide +kernel, rfl⟩
theorem d18_9 : DAt B18 9 (.iload_n 2) 1 10 := ⟨by decide +kernel, rfl⟩
theorem d18_10 : DAt B18 10 (.invokevirtual 19) 3 13 := ⟨by decide +kernel, rfl⟩
theorem d18_13 : DAt B18 13 (.aload_n 1) 1 14 := ⟨by decide +kernel, rfl⟩
theorem d18_14 : DAt B18 14 (.iload_n 2) 1 15 := ⟨by decide +kernel, rfl⟩
theorem d18_15 : DAt B18 15 (.invokevirtual 19) 3 18 := ⟨by decide +kernel, rfl⟩
theorem d18_18 : DAt B18 18 (.if_icmp .eq 5) 3 21 := ⟨by decide +kernel, rfl⟩
theorem d18_21 : DAt B18 21 (.iconst 0) 1 22 := ⟨by decide +kernel, rfl⟩
theorem d18_22 : DAt B18 22 (.ireturn) 1 23 := ⟨by decide +kernel, rfl⟩
theorem d18_23 : DAt B18 23 (.aload_n 0) 1 24 := ⟨by decide +kernel, rfl⟩
theorem d18_24 : DAt B18 24 (.iload_n 2) 1 25 := ⟨by decide +kernel, rfl⟩
theorem d18_25 : DAt B18 25 (.invokevirtual 57) 3 28 := ⟨by decide +kernel, rfl⟩
theorem d18_28 : DAt B18 28 (.aload_n 1) 1 29 := ⟨by decide +kernel, rfl⟩
theorem d18_29 : DAt B18 29 (.iload_n 2) 1 30 := ⟨by decide +kernel, rfl⟩
theorem d18_30 : DAt B18 30 (.invokevirtual 57) 3 33 := ⟨by decide +kernel, rfl⟩
theorem d18_33 : DAt B18 33 (.if_icmp .eq 5) 3 36 := ⟨by decide +kernel, rfl⟩
theorem d18_36 : DAt B18 36 (.iconst 0) 1 37 := ⟨by decide +kernel, rfl⟩
theorem d18_37 : DAt B18 37 (.ireturn) 1 38 := ⟨by decide +kernel, rfl⟩
theorem d18_38 : DAt B18 38 (.iconst 0) 1 39 := ⟨by decide +kernel, rfl⟩
theorem d18_39 : DAt B18 39 (.istore_n 3) 1 40 := ⟨by decide +kernel, rfl⟩
theorem d18_40 : DAt B18 40 (.iload_n 3) 1 41 := ⟨by decide +kernel, rfl⟩
theorem d18_41 : DAt B18 41 (.bipush 64) 2 43 := ⟨by decide +kernel, rfl⟩
theorem d18_43 : DAt B18 43 (.if_icmp .ge 26) 3 46 := ⟨by decide +kernel, rfl⟩
theorem d18_46 : DAt B18 46 (.aload_n 0) 1 47 := ⟨by decide +kernel, rfl⟩
theorem d18_47 : DAt B18 47 (.iload_n 2) 1 48 := ⟨by decide +kernel, rfl⟩
theorem d18_48 : DAt B18 48 (.iload_n 3) 1 49 := ⟨by decide +kernel, rfl⟩
theorem d18_49 : DAt B18 49 (.invokevirtual 60) 3 52 := ⟨by decide +kernel, rfl⟩
theorem d18_52 : DAt B18 52 (.aload_n 1) 1 53 := ⟨by decide +kernel, rfl⟩
theorem d18_53 : DAt B18 53 (.iload_n 2) 1 54 := ⟨by decide +kernel, rfl⟩
theorem d18_54 : DAt B18 54 (.iload_n 3) 1 55 := ⟨by decide +kernel, rfl⟩
theorem d18_55 : DAt B18 55 (.invokevirtual 60) 3 58 := ⟨by decide +kernel, rfl⟩
theorem d18_58 : DAt B18 58 (.if_icmp .eq 5) 3 61 := ⟨by decide +kernel, rfl⟩
theorem d18_61 : DAt B18 61 (.iconst 0) 1 62 := ⟨by decide +kernel, rfl⟩
theorem d18_62 : DAt B18 62 (.ireturn) 1 63 := ⟨by decide +kernel, rfl⟩
theorem d18_63 : DAt B18 63 (.iinc 3 1) 3 66 := ⟨by decide +kernel, rfl⟩
theorem d18_66 : DAt B18 66 (.goto (-26)) 3 69 := ⟨by decide +kernel, rfl⟩
theorem d18_69 : DAt B18 69 (.iconst 0) 1 70 := ⟨by decide +kernel, rfl⟩
theorem d18_70 : DAt B18 70 (.istore_n 3) 1 71 := ⟨by decide +kernel, rfl⟩
theorem d18_71 : DAt B18 71 (.iload_n 3) 1 72 := ⟨by decide +kernel, rfl⟩
theorem d18_72 : DAt B18 72 (.bipush 8) 2 74 := ⟨by decide +kernel, rfl⟩
theorem d18_74 : DAt B18 74 (.if_icmp .ge 142) 3 77 := ⟨by decide +kernel, rfl⟩
theorem d18_77 : DAt B18 77 (.aload_n 0) 1 78 := ⟨by decide +kernel, rfl⟩
theorem d18_78 : DAt B18 78 (.iload_n 2) 1 79 := ⟨by decide +kernel, rfl⟩
theorem d18_79 : DAt B18 79 (.iload_n 3) 1 80 := ⟨by decide +kernel, rfl⟩
theorem d18_80 : DAt B18 80 (.invokevirtual 63) 3 83 := ⟨by decide +kernel, rfl⟩
theorem d18_83 : DAt B18 83 (.aload_n 1) 1 84 := ⟨by decide +kernel, rfl⟩
theorem d18_84 : DAt B18 84 (.iload_n 2) 1 85 := ⟨by decide +kernel, rfl⟩
theorem d18_85 : DAt B18 85 (.iload_n 3) 1 86 := ⟨by decide +kernel, rfl⟩
theorem d18_86 : DAt B18 86 (.invokevirtual 63) 3 89 := ⟨by decide +kernel, rfl⟩
theorem d18_89 : DAt B18 89 (.if_icmp .eq 5) 3 92 := ⟨by decide +kernel, rfl⟩
theorem d18_92 : DAt B18 92 (.iconst 0) 1 93 := ⟨by decide +kernel, rfl⟩
theorem d18_93 : DAt B18 93 (.ireturn) 1 94 := ⟨by decide +kernel, rfl⟩
theorem d18_94 : DAt B18 94 (.iconst 0) 1 95 := ⟨by decide +kernel, rfl⟩
theorem d18_95 : DAt B18 95 (.istore 4) 2 97 := ⟨by decide +kernel, rfl⟩
theorem d18_97 : DAt B18 97 (.iload 4) 2 99 := ⟨by decide +kernel, rfl⟩
theorem d18_99 : DAt B18 99 (.bipush 8) 2 101 := ⟨by decide +kernel, rfl⟩
theorem d18_101 : DAt B18 101 (.if_icmp .ge 30) 3 104 := ⟨by decide +kernel, rfl⟩
theorem d18_104 : DAt B18 104 (.aload_n 0) 1 105 := ⟨by decide +kernel, rfl⟩
theorem d18_105 : DAt B18 105 (.iload_n 2) 1 106 := ⟨by decide +kernel, rfl⟩
theorem d18_106 : DAt B18 106 (.iload 4) 2 108 := ⟨by decide +kernel, rfl⟩
theorem d18_108 : DAt B18 108 (.iload_n 3) 1 109 := ⟨by decide +kernel, rfl⟩
theorem d18_109 : DAt B18 109 (.invokevirtual 66) 3 112 := ⟨by decide +kernel, rfl⟩
theorem d18_112 : DAt B18 112 (.aload_n 1) 1 113 := ⟨by decide +kernel, rfl⟩
theorem d18_113 : DAt B18 113 (.iload_n 2) 1 114 := ⟨by decide +kernel, rfl⟩
theorem d18_114 : DAt B18 114 (.iload 4) 2 116 := ⟨by decide +kernel, rfl⟩
theorem d18_116 : DAt B18 116 (.iload_n 3) 1 117 := ⟨by decide +kernel, rfl⟩
theorem d18_117 : DAt B18 117 (.invokevirtual 66) 3 120 := ⟨by decide +kernel, rfl⟩
theorem d18_120 : DAt B18 120 (.if_icmp .eq 5) 3 123 := ⟨by decide +kernel, rfl⟩
theorem d18_123 : DAt B18 123 (.iconst 0) 1 124 := ⟨by decide +kernel, rfl⟩
theorem d18_124 : DAt B18 124 (.ireturn) 1 125 := ⟨by decide +kernel, rfl⟩
theorem d18_125 : DAt B18 125 (.iinc 4 1) 3 128 := ⟨by decide +kernel, rfl⟩
theorem d18_128 : DAt B18 128 (.goto (-31)) 3 131 := ⟨by decide +kernel, rfl⟩
theorem d18_131 : DAt B18 131 (.iconst 1) 1 132 := ⟨by decide +kernel, rfl⟩
theorem d18_132 : DAt B18 132 (.istore 4) 2 134 := ⟨by decide +kernel, rfl⟩
theorem d18_134 : DAt B18 134 (.iload 4) 2 136 := ⟨by decide +kernel, rfl⟩
theorem d18_136 : DAt B18 136 (.bipush 8) 2 138 := ⟨by decide +kernel, rfl⟩
theorem d18_138 : DAt B18 138 (.if_icmp .gt 72) 3 141 := ⟨by decide +kernel, rfl⟩
theorem d18_141 : DAt B18 141 (.aload_n 0) 1 142 := ⟨by decide +kernel, rfl⟩
theorem d18_142 : DAt B18 142 (.iload_n 2) 1 143 := ⟨by decide +kernel, rfl⟩
theorem d18_143 : DAt B18 143 (.iload_n 3) 1 144 := ⟨by decide +kernel, rfl⟩
theorem d18_144 : DAt B18 144 (.iload 4) 2 146 := ⟨by decide +kernel, rfl⟩
theorem d18_146 : DAt B18 146 (.invokevirtual 16) 3 149 := ⟨by decide +kernel, rfl⟩
theorem d18_149 : DAt B18 149 (.aload_n 1) 1 150 := ⟨by decide +kernel, rfl⟩
theorem d18_150 : DAt B18 150 (.iload_n 2) 1 151 := ⟨by decide +kernel, rfl⟩
theorem d18_151 : DAt B18 151 (.iload_n 3) 1 152 := ⟨by decide +kernel, rfl⟩
theorem d18_152 : DAt B18 152 (.iload 4) 2 154 := ⟨by decide +kernel, rfl⟩
theorem d18_154 : DAt B18 154 (.invokevirtual 16) 3 157 := ⟨by decide +kernel, rfl⟩
theorem d18_157 : DAt B18 157 (.if_icmp .eq 5) 3 160 := ⟨by decide +kernel, rfl⟩
theorem d18_160 : DAt B18 160 (.iconst 0) 1 161 := ⟨by decide +kernel, rfl⟩
theorem d18_161 : DAt B18 161 (.ireturn) 1 162 := ⟨by decide +kernel, rfl⟩
theorem d18_162 : DAt B18 162 (.aload_n 0) 1 163 := ⟨by decide +kernel, rfl⟩
theorem d18_163 : DAt B18 163 (.iload_n 3) 1 164 := ⟨by decide +kernel, rfl⟩
theorem d18_164 : DAt B18 164 (.iload 4) 2 166 := ⟨by decide +kernel, rfl⟩
theorem d18_166 : DAt B18 166 (.iload_n 2) 1 167 := ⟨by decide +kernel, rfl⟩
theorem d18_167 : DAt B18 167 (.invokevirtual 69) 3 170 := ⟨by decide +kernel, rfl⟩
theorem d18_170 : DAt B18 170 (.aload_n 1) 1 171 := ⟨by decide +kernel, rfl⟩
theorem d18_171 : DAt B18 171 (.iload_n 3) 1 172 := ⟨by decide +kernel, rfl⟩
theorem d18_172 : DAt B18 172 (.iload 4) 2 174 := ⟨by decide +kernel, rfl⟩
theorem d18_174 : DAt B18 174 (.iload_n 2) 1 175 := ⟨by decide +kernel, rfl⟩
theorem d18_175 : DAt B18 175 (.invokevirtual 69) 3 178 := ⟨by decide +kernel, rfl⟩
theorem d18_178 : DAt B18 178 (.if_icmp .eq 5) 3 181 := ⟨by decide +kernel, rfl⟩
theorem d18_181 : DAt B18 181 (.iconst 0) 1 182 := ⟨by decide +kernel, rfl⟩
theorem d18_182 : DAt B18 182 (.ireturn) 1 183 := ⟨by decide +kernel, rfl⟩
theorem d18_183 : DAt B18 183 (.aload_n 0) 1 184 := ⟨by decide +kernel, rfl⟩
theorem d18_184 : DAt B18 184 (.iload_n 3) 1 185 := ⟨by decide +kernel, rfl⟩
theorem d18_185 : DAt B18 185 (.iload 4) 2 187 := ⟨by decide +kernel, rfl⟩
theorem d18_187 : DAt B18 187 (.iload_n 2) 1 188 := ⟨by decide +kernel, rfl⟩
theorem d18_188 : DAt B18 188 (.invokevirtual 72) 3 191 := ⟨by decide +kernel, rfl⟩
theorem d18_191 : DAt B18 191 (.aload_n 1) 1 192 := ⟨by decide +kernel, rfl⟩
theorem d18_192 : DAt B18 192 (.iload_n 3) 1 193 := ⟨by decide +kernel, rfl⟩
theorem d18_193 : DAt B18 193 (.iload 4) 2 195 := ⟨by decide +kernel, rfl⟩
theorem d18_195 : DAt B18 195 (.iload_n 2) 1 196 := ⟨by decide +kernel, rfl⟩
theorem d18_196 : DAt B18 196 (.invokevirtual 72) 3 199 := ⟨by decide +kernel, rfl⟩
theorem d18_199 : DAt B18 199 (.if_icmp .eq 5) 3 202 := ⟨by decide +kernel, rfl⟩
theorem d18_202 : DAt B18 202 (.iconst 0) 1 203 := ⟨by decide +kernel, rfl⟩
theorem d18_203 : DAt B18 203 (.ireturn) 1 204 := ⟨by decide +kernel, rfl⟩
theorem d18_204 : DAt B18 204 (.iinc 4 1) 3 207 := ⟨by decide +kernel, rfl⟩
theorem d18_207 : DAt B18 207 (.goto (-73)) 3 210 := ⟨by decide +kernel, rfl⟩
theorem d18_210 : DAt B18 210 (.iinc 3 1) 3 213 := ⟨by decide +kernel, rfl⟩
theorem d18_213 : DAt B18 213 (.goto (-142)) 3 216 := ⟨by decide +kernel, rfl⟩
theorem d18_216 : DAt B18 216 (.iinc 2 1) 3 219 := ⟨by decide +kernel, rfl⟩
theorem d18_219 : DAt B18 219 (.goto (-217)) 3 222 := ⟨by decide +kernel, rfl⟩
theorem d18_222 : DAt B18 222 (.iconst 1) 1 223 := ⟨by decide +kernel, rfl⟩
theorem d18_223 : DAt B18 223 (.ireturn) 1 224 := ⟨by decide +kernel, rfl⟩
def B0 : Bdy := (x, code, maxLocals, ret, room_1)
theorem d0_0 : DAt B0 0 (.new 7) 3 3 := ⟨at_0, rfl⟩
theorem d0_3 : DAt B0 3 (.dup) 1 4 := ⟨at_3, rfl⟩
theorem d0_4 : DAt B0 4 (.iconst 4) 1 5 := ⟨at_4, rfl⟩
theorem d0_5 : DAt B0 5 (.iconst 3) 1 6 := ⟨at_5, rfl⟩
theorem d0_6 : DAt B0 6 (.invokespecial 9) 3 9 := ⟨at_6, rfl⟩
theorem d0_9 : DAt B0 9 (.astore_n 1) 1 10 := ⟨at_9, rfl⟩
theorem d0_10 : DAt B0 10 (.new 7) 3 13 := ⟨at_10, rfl⟩
theorem d0_13 : DAt B0 13 (.dup) 1 14 := ⟨at_13, rfl⟩
theorem d0_14 : DAt B0 14 (.iconst 4) 1 15 := ⟨at_14, rfl⟩
theorem d0_15 : DAt B0 15 (.iconst 3) 1 16 := ⟨at_15, rfl⟩
theorem d0_16 : DAt B0 16 (.invokespecial 9) 3 19 := ⟨at_16, rfl⟩
theorem d0_19 : DAt B0 19 (.astore_n 2) 1 20 := ⟨at_19, rfl⟩
theorem d0_20 : DAt B0 20 (.iconst 0) 1 21 := ⟨at_20, rfl⟩
theorem d0_21 : DAt B0 21 (.istore_n 3) 1 22 := ⟨at_21, rfl⟩
theorem d0_22 : DAt B0 22 (.iload_n 3) 1 23 := ⟨at_22, rfl⟩
theorem d0_23 : DAt B0 23 (.iconst 5) 1 24 := ⟨at_23, rfl⟩
theorem d0_24 : DAt B0 24 (.iadd) 1 25 := ⟨at_24, rfl⟩
theorem d0_25 : DAt B0 25 (.aload_n 0) 1 26 := ⟨at_25, rfl⟩
theorem d0_26 : DAt B0 26 (.arraylength) 1 27 := ⟨at_26, rfl⟩
theorem d0_27 : DAt B0 27 (.if_icmp .gt 148) 3 30 := ⟨at_27, rfl⟩
theorem d0_30 : DAt B0 30 (.aload_n 0) 1 31 := ⟨at_30, rfl⟩
theorem d0_31 : DAt B0 31 (.iload_n 3) 1 32 := ⟨at_31, rfl⟩
theorem d0_32 : DAt B0 32 (.iaload) 1 33 := ⟨at_32, rfl⟩
theorem d0_33 : DAt B0 33 (.bipush 7) 2 35 := ⟨at_33, rfl⟩
theorem d0_35 : DAt B0 35 (.iand) 1 36 := ⟨at_35, rfl⟩
theorem d0_36 : DAt B0 36 (.istore 4) 2 38 := ⟨at_36, rfl⟩
theorem d0_38 : DAt B0 38 (.aload_n 0) 1 39 := ⟨at_38, rfl⟩
theorem d0_39 : DAt B0 39 (.iload_n 3) 1 40 := ⟨at_39, rfl⟩
theorem d0_40 : DAt B0 40 (.iconst 1) 1 41 := ⟨at_40, rfl⟩
theorem d0_41 : DAt B0 41 (.iadd) 1 42 := ⟨at_41, rfl⟩
theorem d0_42 : DAt B0 42 (.iaload) 1 43 := ⟨at_42, rfl⟩
theorem d0_43 : DAt B0 43 (.istore 5) 2 45 := ⟨at_43, rfl⟩
theorem d0_45 : DAt B0 45 (.aload_n 0) 1 46 := ⟨at_45, rfl⟩
theorem d0_46 : DAt B0 46 (.iload_n 3) 1 47 := ⟨at_46, rfl⟩
theorem d0_47 : DAt B0 47 (.iconst 2) 1 48 := ⟨at_47, rfl⟩
theorem d0_48 : DAt B0 48 (.iadd) 1 49 := ⟨at_48, rfl⟩
theorem d0_49 : DAt B0 49 (.iaload) 1 50 := ⟨at_49, rfl⟩
theorem d0_50 : DAt B0 50 (.istore 6) 2 52 := ⟨at_50, rfl⟩
theorem d0_52 : DAt B0 52 (.aload_n 0) 1 53 := ⟨at_52, rfl⟩
theorem d0_53 : DAt B0 53 (.iload_n 3) 1 54 := ⟨at_53, rfl⟩
theorem d0_54 : DAt B0 54 (.iconst 3) 1 55 := ⟨at_54, rfl⟩
theorem d0_55 : DAt B0 55 (.iadd) 1 56 := ⟨at_55, rfl⟩
theorem d0_56 : DAt B0 56 (.iaload) 1 57 := ⟨at_56, rfl⟩
theorem d0_57 : DAt B0 57 (.istore 7) 2 59 := ⟨at_57, rfl⟩
theorem d0_59 : DAt B0 59 (.aload_n 0) 1 60 := ⟨at_59, rfl⟩
theorem d0_60 : DAt B0 60 (.iload_n 3) 1 61 := ⟨at_60, rfl⟩
theorem d0_61 : DAt B0 61 (.iconst 4) 1 62 := ⟨at_61, rfl⟩
theorem d0_62 : DAt B0 62 (.iadd) 1 63 := ⟨at_62, rfl⟩
theorem d0_63 : DAt B0 63 (.iaload) 1 64 := ⟨at_63, rfl⟩
theorem d0_64 : DAt B0 64 (.istore 8) 2 66 := ⟨at_64, rfl⟩
theorem d0_66 : DAt B0 66 (.iload 4) 2 68 := ⟨at_66, rfl⟩
theorem d0_68 : DAt B0 68 (.iconst 1) 1 69 := ⟨at_68, rfl⟩
theorem d0_69 : DAt B0 69 (.if_icmp .ne 72) 3 72 := ⟨at_69, rfl⟩
theorem d0_72 : DAt B0 72 (.aload_n 1) 1 73 := ⟨at_72, rfl⟩
theorem d0_73 : DAt B0 73 (.iload 5) 2 75 := ⟨at_73, rfl⟩
theorem d0_75 : DAt B0 75 (.iload 6) 2 77 := ⟨at_75, rfl⟩
theorem d0_77 : DAt B0 77 (.iload 7) 2 79 := ⟨at_77, rfl⟩
theorem d0_79 : DAt B0 79 (.invokevirtual 12) 3 82 := ⟨at_79, rfl⟩
theorem d0_82 : DAt B0 82 (.pop) 1 83 := ⟨at_82, rfl⟩
theorem d0_83 : DAt B0 83 (.aload_n 2) 1 84 := ⟨at_83, rfl⟩
theorem d0_84 : DAt B0 84 (.iload 5) 2 86 := ⟨at_84, rfl⟩
theorem d0_86 : DAt B0 86 (.iload 6) 2 88 := ⟨at_86, rfl⟩
theorem d0_88 : DAt B0 88 (.iload 7) 2 90 := ⟨at_88, rfl⟩
theorem d0_90 : DAt B0 90 (.invokevirtual 16) 3 93 := ⟨at_90, rfl⟩
theorem d0_93 : DAt B0 93 (.istore 9) 2 95 := ⟨at_93, rfl⟩
theorem d0_95 : DAt B0 95 (.aload_n 2) 1 96 := ⟨at_95, rfl⟩
theorem d0_96 : DAt B0 96 (.iload 5) 2 98 := ⟨at_96, rfl⟩
theorem d0_98 : DAt B0 98 (.invokevirtual 19) 3 101 := ⟨at_98, rfl⟩
theorem d0_101 : DAt B0 101 (.istore 10) 2 103 := ⟨at_101, rfl⟩
theorem d0_103 : DAt B0 103 (.iload 9) 2 105 := ⟨at_103, rfl⟩
theorem d0_105 : DAt B0 105 (.ifCond .le 22) 3 108 := ⟨at_105, rfl⟩
theorem d0_108 : DAt B0 108 (.iload 10) 2 110 := ⟨at_108, rfl⟩
theorem d0_110 : DAt B0 110 (.ifCond .ne 17) 3 113 := ⟨at_110, rfl⟩
theorem d0_113 : DAt B0 113 (.aload_n 2) 1 114 := ⟨at_113, rfl⟩
theorem d0_114 : DAt B0 114 (.iload 6) 2 116 := ⟨at_114, rfl⟩
theorem d0_116 : DAt B0 116 (.iload 7) 2 118 := ⟨at_116, rfl⟩
theorem d0_118 : DAt B0 118 (.iload 5) 2 120 := ⟨at_118, rfl⟩
theorem d0_120 : DAt B0 120 (.invokevirtual 23) 3 123 := ⟨at_120, rfl⟩
theorem d0_123 : DAt B0 123 (.pop) 1 124 := ⟨at_123, rfl⟩
theorem d0_124 : DAt B0 124 (.goto 14) 3 127 := ⟨at_124, rfl⟩
theorem d0_127 : DAt B0 127 (.aload_n 2) 1 128 := ⟨at_127, rfl⟩
theorem d0_128 : DAt B0 128 (.iload 5) 2 130 := ⟨at_128, rfl⟩
theorem d0_130 : DAt B0 130 (.iload 6) 2 132 := ⟨at_130, rfl⟩
theorem d0_132 : DAt B0 132 (.iload 7) 2 134 := ⟨at_132, rfl⟩
theorem d0_134 : DAt B0 134 (.invokevirtual 12) 3 137 := ⟨at_134, rfl⟩
theorem d0_137 : DAt B0 137 (.pop) 1 138 := ⟨at_137, rfl⟩
theorem d0_138 : DAt B0 138 (.goto 31) 3 141 := ⟨at_138, rfl⟩
theorem d0_141 : DAt B0 141 (.aload_n 1) 1 142 := ⟨at_141, rfl⟩
theorem d0_142 : DAt B0 142 (.iload 4) 2 144 := ⟨at_142, rfl⟩
theorem d0_144 : DAt B0 144 (.iload 5) 2 146 := ⟨at_144, rfl⟩
theorem d0_146 : DAt B0 146 (.iload 6) 2 148 := ⟨at_146, rfl⟩
theorem d0_148 : DAt B0 148 (.iload 7) 2 150 := ⟨at_148, rfl⟩
theorem d0_150 : DAt B0 150 (.iload 8) 2 152 := ⟨at_150, rfl⟩
theorem d0_152 : DAt B0 152 (.invokestatic 26) 3 155 := ⟨at_152, rfl⟩
theorem d0_155 : DAt B0 155 (.aload_n 2) 1 156 := ⟨at_155, rfl⟩
theorem d0_156 : DAt B0 156 (.iload 4) 2 158 := ⟨at_156, rfl⟩
theorem d0_158 : DAt B0 158 (.iload 5) 2 160 := ⟨at_158, rfl⟩
theorem d0_160 : DAt B0 160 (.iload 6) 2 162 := ⟨at_160, rfl⟩
theorem d0_162 : DAt B0 162 (.iload 7) 2 164 := ⟨at_162, rfl⟩
theorem d0_164 : DAt B0 164 (.iload 8) 2 166 := ⟨at_164, rfl⟩
theorem d0_166 : DAt B0 166 (.invokestatic 26) 3 169 := ⟨at_166, rfl⟩
theorem d0_169 : DAt B0 169 (.iinc 3 5) 3 172 := ⟨at_169, rfl⟩
theorem d0_172 : DAt B0 172 (.goto (-150)) 3 175 := ⟨at_172, rfl⟩
theorem d0_175 : DAt B0 175 (.aload_n 1) 1 176 := ⟨at_175, rfl⟩
theorem d0_176 : DAt B0 176 (.aload_n 2) 1 177 := ⟨at_176, rfl⟩
theorem d0_177 : DAt B0 177 (.invokestatic 32) 3 180 := ⟨at_177, rfl⟩
theorem d0_180 : DAt B0 180 (.ireturn) 1 181 := ⟨at_180, rfl⟩
theorem ar1 : arity B1 2 := ⟨[.int, .int], none, by decide +kernel, rfl⟩
theorem ar2 : arity B2 6 := ⟨[(.object "CausalStable"), .int, .int, .int, .int, .int], none, by decide +kernel, rfl⟩
theorem ar3 : arity B3 3 := ⟨[.int, .int, .int], some .int, by decide +kernel, rfl⟩
theorem ar4 : arity B4 2 := ⟨[.int, .int], some .boolean, by decide +kernel, rfl⟩
theorem ar5 : arity B5 1 := ⟨[.int], some .int, by decide +kernel, rfl⟩
theorem ar6 : arity B6 1 := ⟨[.int], some .boolean, by decide +kernel, rfl⟩
theorem ar7 : arity B7 2 := ⟨[.int, .int], some .int, by decide +kernel, rfl⟩
theorem ar8 : arity B8 3 := ⟨[.int, .int, .int], none, by decide +kernel, rfl⟩
theorem ar9 : arity B9 3 := ⟨[.int, .int, .int], some .int, by decide +kernel, rfl⟩
theorem ar10 : arity B10 3 := ⟨[.int, .int, .int], some .int, by decide +kernel, rfl⟩
theorem ar11 : arity B11 3 := ⟨[.int, .int, .int], some .int, by decide +kernel, rfl⟩
theorem ar12 : arity B12 3 := ⟨[.int, .int, .int], some .int, by decide +kernel, rfl⟩
theorem ar13 : arity B13 3 := ⟨[.int, .int, .int], some .int, by decide +kernel, rfl⟩
theorem ar14 : arity B14 1 := ⟨[.int], some .int, by decide +kernel, rfl⟩
theorem ar15 : arity B15 3 := ⟨[.int, .int, .int], some .boolean, by decide +kernel, rfl⟩
theorem ar16 : arity B16 3 := ⟨[.int, .int, .int], some .int, by decide +kernel, rfl⟩
theorem ar17 : arity B17 1 := ⟨[.int], some .boolean, by decide +kernel, rfl⟩
theorem ar18 : arity B18 2 := ⟨[(.object "CausalStable"), (.object "CausalStable")], some .boolean, by decide +kernel, rfl⟩
theorem ar19 : arity B19 1 := ⟨[.int], some .int, by decide +kernel, rfl⟩
theorem ar20 : arity B20 2 := ⟨[.int, .int], some .int, by decide +kernel, rfl⟩
theorem ar21 : arity B21 2 := ⟨[.int, .int], some .int, by decide +kernel, rfl⟩
theorem ar22 : arity B22 3 := ⟨[.int, .int, .int], some .int, by decide +kernel, rfl⟩
theorem ar23 : arity B23 3 := ⟨[.int, .int, .int], some .int, by decide +kernel, rfl⟩
theorem ar24 : arity B24 3 := ⟨[.int, .int, .int], some .int, by decide +kernel, rfl⟩
theorem ar25 : arity B25 1 := ⟨[.int], some .int, by decide +kernel, rfl⟩
theorem ar26 : arity B26 4 := ⟨[.int, .int, .int, .int], some .int, by decide +kernel, rfl⟩
theorem ar27 : arity B27 1 := ⟨[.int], some .int, by decide +kernel, rfl⟩
theorem ar28 : arity B28 2 := ⟨[.int, .int], some .int, by decide +kernel, rfl⟩
theorem ar29 : arity B29 1 := ⟨[.int], some .boolean, by decide +kernel, rfl⟩
theorem ar30 : arity B30 3 := ⟨[.int, .int, .int], some .boolean, by decide +kernel, rfl⟩
theorem cw1 : code_w B1 := ⟨mem1 5 rfl, mem1 2 rfl, by decide⟩
theorem cw2 : code_w B2 := ⟨mem1 36 rfl, mem1 35 rfl, by decide⟩
theorem cw3 : code_w B3 := ⟨mem1 41 rfl, mem1 2 rfl, by decide⟩
theorem cw4 : code_w B4 := ⟨mem1 45 rfl, mem1 2 rfl, by decide⟩
theorem cw5 : code_w B5 := ⟨mem1 50 rfl, mem1 2 rfl, by decide⟩
theorem cw6 : code_w B6 := ⟨mem1 54 rfl, mem1 2 rfl, by decide⟩
theorem cw7 : code_w B7 := ⟨mem1 58 rfl, mem1 2 rfl, by decide⟩
theorem cw8 : code_w B8 := ⟨mem1 62 rfl, mem1 2 rfl, by decide⟩
theorem cw9 : code_w B9 := ⟨mem1 66 rfl, mem1 2 rfl, by decide⟩
theorem cw10 : code_w B10 := ⟨mem1 70 rfl, mem1 2 rfl, by decide⟩
theorem cw11 : code_w B11 := ⟨mem1 75 rfl, mem1 2 rfl, by decide⟩
theorem cw12 : code_w B12 := ⟨mem1 80 rfl, mem1 2 rfl, by decide⟩
theorem cw13 : code_w B13 := ⟨mem1 84 rfl, mem1 2 rfl, by decide⟩
theorem cw14 : code_w B14 := ⟨mem1 88 rfl, mem1 2 rfl, by decide⟩
theorem cw15 : code_w B15 := ⟨mem1 92 rfl, mem1 2 rfl, by decide⟩
theorem cw16 : code_w B16 := ⟨mem1 97 rfl, mem1 2 rfl, by decide⟩
theorem cw17 : code_w B17 := ⟨mem1 102 rfl, mem1 2 rfl, by decide⟩
theorem cw18 : code_w B18 := ⟨mem1 105 rfl, mem1 35 rfl, by decide⟩
theorem cw19 : code_w B19 := ⟨mem1 110 rfl, mem1 2 rfl, by decide⟩
theorem cw20 : code_w B20 := ⟨mem1 115 rfl, mem1 2 rfl, by decide⟩
theorem cw21 : code_w B21 := ⟨mem1 120 rfl, mem1 2 rfl, by decide⟩
theorem cw22 : code_w B22 := ⟨mem1 125 rfl, mem1 2 rfl, by decide⟩
theorem cw23 : code_w B23 := ⟨mem1 130 rfl, mem1 2 rfl, by decide⟩
theorem cw24 : code_w B24 := ⟨mem1 135 rfl, mem1 2 rfl, by decide⟩
theorem cw25 : code_w B25 := ⟨mem1 140 rfl, mem1 2 rfl, by decide⟩
theorem cw26 : code_w B26 := ⟨mem1 145 rfl, mem1 2 rfl, by decide⟩
theorem cw27 : code_w B27 := ⟨mem1 150 rfl, mem1 2 rfl, by decide⟩
theorem cw28 : code_w B28 := ⟨mem1 155 rfl, mem1 2 rfl, by decide⟩
theorem cw29 : code_w B29 := ⟨mem1 159 rfl, mem1 2 rfl, by decide⟩
theorem cw30 : code_w B30 := ⟨mem1 163 rfl, mem1 2 rfl, by decide⟩
theorem rk0_2_0 : room_ok B0 B2 0 := by decide
theorem rk0_3_0 : room_ok B0 B3 0 := by decide
theorem rk0_12_0 : room_ok B0 B12 0 := by decide
theorem rk0_16_0 : room_ok B0 B16 0 := by decide
theorem rk0_17_0 : room_ok B0 B17 0 := by decide
theorem rk0_18_0 : room_ok B0 B18 0 := by decide
theorem rk2_3_0 : room_ok B2 B3 0 := by decide
theorem rk2_5_0 : room_ok B2 B5 0 := by decide
theorem rk2_11_0 : room_ok B2 B11 0 := by decide
theorem rk2_25_0 : room_ok B2 B25 0 := by decide
theorem rk2_26_0 : room_ok B2 B26 0 := by decide
theorem rk2_27_0 : room_ok B2 B27 0 := by decide
theorem rk2_28_0 : room_ok B2 B28 0 := by decide
theorem rk3_4_0 : room_ok B3 B4 0 := by decide
theorem rk3_6_0 : room_ok B3 B6 0 := by decide
theorem rk3_13_0 : room_ok B3 B13 0 := by decide
theorem rk5_6_0 : room_ok B5 B6 0 := by decide
theorem rk5_7_0 : room_ok B5 B7 0 := by decide
theorem rk5_8_0 : room_ok B5 B8 0 := by decide
theorem rk8_9_0 : room_ok B8 B9 0 := by decide
theorem rk8_10_0 : room_ok B8 B10 0 := by decide
theorem rk11_4_0 : room_ok B11 B4 0 := by decide
theorem rk11_6_0 : room_ok B11 B6 0 := by decide
theorem rk11_13_0 : room_ok B11 B13 0 := by decide
theorem rk12_4_0 : room_ok B12 B4 0 := by decide
theorem rk12_6_0 : room_ok B12 B6 0 := by decide
theorem rk12_9_0 : room_ok B12 B9 0 := by decide
theorem rk12_13_0 : room_ok B12 B13 0 := by decide
theorem rk12_14_0 : room_ok B12 B14 0 := by decide
theorem rk14_8_0 : room_ok B14 B8 0 := by decide
theorem rk14_15_0 : room_ok B14 B15 0 := by decide
theorem rk15_4_0 : room_ok B15 B4 0 := by decide
theorem rk15_7_0 : room_ok B15 B7 0 := by decide
theorem rk15_9_0 : room_ok B15 B9 0 := by decide
theorem rk16_4_0 : room_ok B16 B4 0 := by decide
theorem rk16_6_0 : room_ok B16 B6 0 := by decide
theorem rk16_9_0 : room_ok B16 B9 0 := by decide
theorem rk17_6_0 : room_ok B17 B6 0 := by decide
theorem rk18_16_0 : room_ok B18 B16 0 := by decide
theorem rk18_16_1 : room_ok B18 B16 1 := by decide
theorem rk18_17_0 : room_ok B18 B17 0 := by decide
theorem rk18_17_1 : room_ok B18 B17 1 := by decide
theorem rk18_19_0 : room_ok B18 B19 0 := by decide
theorem rk18_19_1 : room_ok B18 B19 1 := by decide
theorem rk18_20_0 : room_ok B18 B20 0 := by decide
theorem rk18_20_1 : room_ok B18 B20 1 := by decide
theorem rk18_21_0 : room_ok B18 B21 0 := by decide
theorem rk18_21_1 : room_ok B18 B21 1 := by decide
theorem rk18_22_0 : room_ok B18 B22 0 := by decide
theorem rk18_22_1 : room_ok B18 B22 1 := by decide
theorem rk18_23_0 : room_ok B18 B23 0 := by decide
theorem rk18_23_1 : room_ok B18 B23 1 := by decide
theorem rk18_24_0 : room_ok B18 B24 0 := by decide
theorem rk18_24_1 : room_ok B18 B24 1 := by decide
theorem rk19_6_0 : room_ok B19 B6 0 := by decide
theorem rk20_6_0 : room_ok B20 B6 0 := by decide
theorem rk21_6_0 : room_ok B21 B6 0 := by decide
theorem rk22_6_0 : room_ok B22 B6 0 := by decide
theorem rk22_10_0 : room_ok B22 B10 0 := by decide
theorem rk23_4_0 : room_ok B23 B4 0 := by decide
theorem rk23_6_0 : room_ok B23 B6 0 := by decide
theorem rk23_13_0 : room_ok B23 B13 0 := by decide
theorem rk24_4_0 : room_ok B24 B4 0 := by decide
theorem rk24_6_0 : room_ok B24 B6 0 := by decide
theorem rk24_7_0 : room_ok B24 B7 0 := by decide
theorem rk25_6_0 : room_ok B25 B6 0 := by decide
theorem rk25_9_0 : room_ok B25 B9 0 := by decide
theorem rk25_30_0 : room_ok B25 B30 0 := by decide
theorem rk26_4_0 : room_ok B26 B4 0 := by decide
theorem rk26_6_0 : room_ok B26 B6 0 := by decide
theorem rk26_9_0 : room_ok B26 B9 0 := by decide
theorem rk26_13_0 : room_ok B26 B13 0 := by decide
theorem rk27_6_0 : room_ok B27 B6 0 := by decide
theorem rk27_29_0 : room_ok B27 B29 0 := by decide
theorem rk28_6_0 : room_ok B28 B6 0 := by decide
theorem rk30_10_0 : room_ok B30 B10 0 := by decide
def X_init_b116 (ob : Rec) (i4 : Int32) : Option (Rec) :=
  if (8 : Int32) < i4 then
    some (sI ob 1 (8 : Int32))
  else
    some (sI ob 1 i4)
set_option maxRecDepth 65536 in
set_option maxHeartbeats 4000000 in
theorem X_init_b116_p {C : Ctx} {a : Nat} {H : List (Nat × Nat × Rec)} {res : Rec} (ob : Rec) (i4 : Int32) (hf : X_init_b116 ob i4 = some res) : Runs C B1 9 2648 116 [vr a, vn, vn, vn, vi i4] [] (a + 1 + 9, (a, 9, ob) :: H) (Ans none (a + 1 + 9, (a, 9, res) :: H)) := by
  delta X_init_b116 at hf
  refine Runs.iload d1_116 rfl <| Runs.bipush d1_118 cb_8 <| ?_
  refine ite_el hf (fun hc3 hf => ?_) (fun hc3 hf => ?_)
  · refine Runs.icN d1_120 (tlt hc3).2.2.2 <| ?_
    obtain rfl := Option.some.inj hf
    exact Runs.bipush d1_123 cb_8 <| Runs.istore (P' := [vr a, vn, vn, vn, vi (8 : Int32)]) d1_125 (by decide) rfl <| Runs.aloadN d1_127 rfl <| Runs.iload d1_128 rfl <| Runs.putI d1_130 w31 fS_1 (Or.inl w32) <| Runs.retV d1_133 rfl ⟨by decide, by decide⟩ ⟨rfl, rfl⟩
  · refine Runs.icY (pc' := 127) d1_120 (flt hc3).2.2.2 (by decide) <| ?_
    obtain rfl := Option.some.inj hf
    exact Runs.aloadN d1_127 rfl <| Runs.iload d1_128 rfl <| Runs.putI d1_130 w31 fS_1 (Or.inl w32) <| Runs.retV d1_133 rfl ⟨by decide, by decide⟩ ⟨rfl, rfl⟩
def X_init_b99 (ob : Rec) (i2 : Int32) (i3 : Int32) : Option (Rec) :=
  if i2 < (1 : Int32) then
    X_init_b116 (sI ob 0 i3) (1 : Int32)
  else
    X_init_b116 (sI ob 0 i3) i2
set_option maxRecDepth 65536 in
set_option maxHeartbeats 4000000 in
theorem X_init_b99_p {C : Ctx} {a : Nat} {H : List (Nat × Nat × Rec)} {res : Rec} (ob : Rec) (i2 : Int32) (i3 : Int32) (hf : X_init_b99 ob i2 i3 = some res) : Runs C B1 9 2648 99 [vr a, vn, vi i2, vi i3, vn] [] (a + 1 + 9, (a, 9, ob) :: H) (Ans none (a + 1 + 9, (a, 9, res) :: H)) := by
  delta X_init_b99 at hf
  refine Runs.aloadN d1_99 rfl <| Runs.iloadN d1_100 rfl <| Runs.putI d1_101 w29 fS_0 (Or.inl w30) <| Runs.iloadN d1_104 rfl <| Runs.istore (P' := [vr a, vn, vi i2, vi i3, vi i2]) d1_105 (by decide) rfl <| Runs.iload d1_107 rfl <| Runs.iconst d1_109 ci_1 <| ?_
  refine ite_el hf (fun hc2 hf => ?_) (fun hc2 hf => ?_)
  · refine Runs.icN d1_110 (tlt hc2).2.1 <| ?_
    exact Runs.iconst d1_113 ci_1 <| Runs.istore (P' := [vr a, vn, vi i2, vi i3, vi (1 : Int32)]) d1_114 (by decide) rfl <| Runs.forget [true, false, false, false, true] rfl <| X_init_b116_p (sI ob 0 i3) (1 : Int32) hf
  · exact Runs.icY (pc' := 116) d1_110 (flt hc2).2.1 (by decide) <| Runs.forget [true, false, false, false, true] rfl <| X_init_b116_p (sI ob 0 i3) i2 hf
def X_init_b90 (ob : Rec) (i2 : Int32) (i3 : Int32) : Option (Rec) :=
  if (8 : Int32) < i3 then
    X_init_b99 ob i2 (8 : Int32)
  else
    X_init_b99 ob i2 i3
set_option maxRecDepth 65536 in
set_option maxHeartbeats 4000000 in
theorem X_init_b90_p {C : Ctx} {a : Nat} {H : List (Nat × Nat × Rec)} {res : Rec} (ob : Rec) (i2 : Int32) (i3 : Int32) (hf : X_init_b90 ob i2 i3 = some res) : Runs C B1 9 2648 90 [vr a, vn, vi i2, vi i3, vn] [] (a + 1 + 9, (a, 9, ob) :: H) (Ans none (a + 1 + 9, (a, 9, res) :: H)) := by
  delta X_init_b90 at hf
  refine Runs.iloadN d1_90 rfl <| Runs.bipush d1_91 cb_8 <| ?_
  refine ite_el hf (fun hc1 hf => ?_) (fun hc1 hf => ?_)
  · refine Runs.icN d1_93 (tlt hc1).2.2.2 <| ?_
    exact Runs.bipush d1_96 cb_8 <| Runs.istoreN (P' := [vr a, vn, vi i2, vi (8 : Int32), vn]) d1_98 (by decide) rfl <| X_init_b99_p ob i2 (8 : Int32) hf
  · exact Runs.icY (pc' := 99) d1_93 (flt hc1).2.2.2 (by decide) <| X_init_b99_p ob i2 i3 hf
def X_init (i1 : Int32) (i2 : Int32) : Option (Rec) :=
  if i1 < (2 : Int32) then
    X_init_b90 zrec i2 (2 : Int32)
  else
    X_init_b90 zrec i2 i1
set_option maxRecDepth 65536 in
set_option maxHeartbeats 4000000 in
theorem X_init_p {C : Ctx} {a : Nat} {H : List (Nat × Nat × Rec)} {res : Rec} (i1 : Int32) (i2 : Int32) (hf : X_init i1 i2 = some res) : Runs C B1 0 0 0 [vr a, vi i1, vi i2, vn, vn] [] (a + 1, (a, 0, zrec) :: H) (Ans none (a + 1 + 9, (a, 9, res) :: H)) := by
  delta X_init at hf
  refine Runs.aloadN d1_0 rfl <| Runs.initO (W := 0) d1_1 w6 w7 w8 rfl (by decide) <| Runs.aloadN d1_4 rfl <| Runs.bipush d1_5 cb_8 <| Runs.newArr (j' := 1) (top' := a + 1 + 1) (k' := 1) (n' := 8) d1_7 d1_9 fA_0 w10 rfl w9 (Or.inl w11) rfl (by decide) ⟨by decide, by decide⟩ ⟨fun _ => rfl, fun _ => rfl⟩ rfl rfl rfl (by decide) <| Runs.aloadN d1_12 rfl <| Runs.bipush d1_13 cb_8 <| Runs.newArr (j' := 2) (top' := a + 1 + 2) (k' := 2) (n' := 16) d1_15 d1_17 fA_1 w13 rfl w12 (Or.inl w14) rfl (by decide) ⟨by decide, by decide⟩ ⟨fun _ => rfl, fun _ => rfl⟩ rfl rfl rfl (by decide) <| Runs.aloadN d1_20 rfl <| Runs.bipush d1_21 cb_64 <| Runs.newArr (j' := 3) (top' := a + 1 + 3) (k' := 3) (n' := 80) d1_23 d1_25 fA_2 w15 rfl w9 (Or.inl w16) rfl (by decide) ⟨by decide, by decide⟩ ⟨fun _ => rfl, fun _ => rfl⟩ rfl rfl rfl (by decide) <| Runs.aloadN d1_28 rfl <| ?_
  refine Runs.sipush d1_29 cs_512 <| Runs.newArr (j' := 4) (top' := a + 1 + 4) (k' := 4) (n' := 592) d1_32 d1_34 fA_3 w17 rfl w9 (Or.inl w18) rfl (by decide) ⟨by decide, by decide⟩ ⟨fun _ => rfl, fun _ => rfl⟩ rfl rfl rfl (by decide) <| Runs.aloadN d1_37 rfl <| Runs.sipush d1_38 cs_512 <| Runs.newArr (j' := 5) (top' := a + 1 + 5) (k' := 5) (n' := 1104) d1_41 d1_43 fA_4 w19 rfl w9 (Or.inl w20) rfl (by decide) ⟨by decide, by decide⟩ ⟨fun _ => rfl, fun _ => rfl⟩ rfl rfl rfl (by decide) <| Runs.aloadN d1_46 rfl <| Runs.sipush d1_47 cs_512 <| Runs.newArr (j' := 6) (top' := a + 1 + 6) (k' := 6) (n' := 1616) d1_50 d1_52 fA_5 w21 rfl w9 (Or.inl w22) rfl (by decide) ⟨by decide, by decide⟩ ⟨fun _ => rfl, fun _ => rfl⟩ rfl rfl rfl (by decide) <| Runs.aloadN d1_55 rfl <| Runs.sipush d1_56 cs_512 <| Runs.newArr (j' := 7) (top' := a + 1 + 7) (k' := 7) (n' := 2128) d1_59 d1_61 fA_6 w23 rfl w9 (Or.inl w24) rfl (by decide) ⟨by decide, by decide⟩ ⟨fun _ => rfl, fun _ => rfl⟩ rfl rfl rfl (by decide) <| Runs.aloadN d1_64 rfl <| ?_
  refine Runs.sipush d1_65 cs_512 <| Runs.newArr (j' := 8) (top' := a + 1 + 8) (k' := 8) (n' := 2640) d1_68 d1_70 fA_7 w25 rfl w9 (Or.inl w26) rfl (by decide) ⟨by decide, by decide⟩ ⟨fun _ => rfl, fun _ => rfl⟩ rfl rfl rfl (by decide) <| Runs.aloadN d1_73 rfl <| Runs.bipush d1_74 cb_8 <| Runs.newArr (j' := 9) (top' := a + 1 + 9) (k' := 9) (n' := 2648) d1_76 d1_78 fA_8 w27 rfl w9 (Or.inl w28) rfl (by decide) ⟨by decide, by decide⟩ ⟨fun _ => rfl, fun _ => rfl⟩ rfl rfl rfl (by decide) <| Runs.iloadN d1_81 rfl <| Runs.istoreN (P' := [vr a, vi i1, vi i2, vi i1, vn]) d1_82 (by decide) rfl <| Runs.iloadN d1_83 rfl <| Runs.iconst d1_84 ci_2 <| ?_
  refine ite_el hf (fun hc4 hf => ?_) (fun hc4 hf => ?_)
  · refine Runs.icN d1_85 (tlt hc4).2.1 <| ?_
    exact Runs.iconst d1_88 ci_2 <| Runs.istoreN (P' := [vr a, vi i1, vi i2, vi (2 : Int32), vn]) d1_89 (by decide) rfl <| Runs.forget [true, false, true, true, false] rfl <| X_init_b90_p zrec i2 (2 : Int32) hf
  · exact Runs.icY (pc' := 90) d1_85 (flt hc4).2.1 (by decide) <| Runs.forget [true, false, true, true, false] rfl <| X_init_b90_p zrec i2 i1 hf
theorem X_init_pay {C : Ctx} {a : Nat} {H : List (Nat × Nat × Rec)} {res : Rec} {i1 : Int32} {i2 : Int32} (hf : X_init i1 i2 = some res) : Pays C B1 [.ref a, .int i1, .int i2] (a + 1, (a, 0, zrec) :: H) (Ans none (a + 1 + 9, (a, 9, res) :: H)) :=
  Pays.of pnK (Nat.le_of_ble_eq_true rfl) (P := [vr a, vi i1, vi i2, vn, vn]) 2 rfl (X_init_p i1 i2 hf)
def X_validProc (ob : Rec) (i1 : Int32) : Option (Int32) :=
  if i1 < (0 : Int32) then
    some (0 : Int32)
  else
    if i1 < (gI ob 0) then
      some (1 : Int32)
    else
      some (0 : Int32)
set_option maxRecDepth 65536 in
set_option maxHeartbeats 4000000 in
theorem X_validProc_p {C : Ctx} {top : Nat} {a : Nat} {H : List (Nat × Nat × Rec)} {ob : Rec} {res : Int32} (i1 : Int32) (hf : X_validProc ob i1 = some res) : Runs C B6 0 0 0 [vr a, vi i1] [] (top, (a, 9, ob) :: H) (Ans (some (.int res)) (top, (a, 9, ob) :: H)) := by
  delta X_validProc at hf
  refine Runs.iloadN d6_0 rfl <| ?_
  refine ite_el hf (fun hc1 hf => ?_) (fun hc1 hf => ?_)
  · refine Runs.ifY (pc' := 16) d6_1 (tlt hc1).1 (by decide) <| ?_
    obtain rfl := Option.some.inj hf
    exact Runs.iconst d6_16 ci_0 <| Runs.retZ (y := (0 : Int32)) d6_17 rfl ⟨by decide, by decide⟩ rfl ⟨rfl, rfl⟩
  · refine Runs.ifN d6_1 (flt hc1).1 <| ?_
    refine Runs.iloadN d6_4 rfl <| Runs.aloadN d6_5 rfl <| Runs.getI d6_6 w29 fS_0 <| ?_
    refine ite_el hf (fun hc2 hf => ?_) (fun hc2 hf => ?_)
    · refine Runs.icN d6_9 (tlt hc2).2.1 <| ?_
      obtain rfl := Option.some.inj hf
      exact Runs.iconst d6_12 ci_1 <| Runs.goto (pc' := 17) d6_13 (by decide) <| Runs.retZ (y := (1 : Int32)) d6_17 rfl ⟨by decide, by decide⟩ rfl ⟨rfl, rfl⟩
    · refine Runs.icY (pc' := 16) d6_9 (flt hc2).2.1 (by decide) <| ?_
      obtain rfl := Option.some.inj hf
      exact Runs.iconst d6_16 ci_0 <| Runs.retZ (y := (0 : Int32)) d6_17 rfl ⟨by decide, by decide⟩ rfl ⟨rfl, rfl⟩
theorem X_validProc_pay {C : Ctx} {top : Nat} {a : Nat} {H : List (Nat × Nat × Rec)} {ob : Rec} {res : Int32} {i1 : Int32} (hf : X_validProc ob i1 = some res) : Pays C B6 [.ref a, .int i1] (top, (a, 9, ob) :: H) (Ans (some (.int res)) (top, (a, 9, ob) :: H)) :=
  Pays.of pnK (Nat.le_of_ble_eq_true rfl) (P := [vr a, vi i1]) 0 rfl (X_validProc_p i1 hf)
def X_exists (ob : Rec) (i1 : Int32) (i2 : Int32) : Option (Int32) :=
  if i1 < (0 : Int32) then
    some (0 : Int32)
  else
    if i1 < (gI ob 0) then
      if i2 < (1 : Int32) then
        some (0 : Int32)
      else
        chk (8 : Int32) i1 <|
        if (gA ob 0 i1) < i2 then
          some (0 : Int32)
        else
          some (1 : Int32)
    else
      some (0 : Int32)
set_option maxRecDepth 65536 in
set_option maxHeartbeats 4000000 in
theorem X_exists_p {C : Ctx} {top : Nat} {a : Nat} {H : List (Nat × Nat × Rec)} {ob : Rec} {res : Int32} (i1 : Int32) (i2 : Int32) (hf : X_exists ob i1 i2 = some res) : Runs C B4 0 0 0 [vr a, vi i1, vi i2] [] (top, (a, 9, ob) :: H) (Ans (some (.int res)) (top, (a, 9, ob) :: H)) := by
  delta X_exists at hf
  refine Runs.iloadN d4_0 rfl <| ?_
  refine ite_el hf (fun hc1 hf => ?_) (fun hc1 hf => ?_)
  · refine Runs.ifY (pc' := 31) d4_1 (tlt hc1).1 (by decide) <| ?_
    obtain rfl := Option.some.inj hf
    exact Runs.iconst d4_31 ci_0 <| Runs.retZ (y := (0 : Int32)) d4_32 rfl ⟨by decide, by decide⟩ rfl ⟨rfl, rfl⟩
  · refine Runs.ifN d4_1 (flt hc1).1 <| ?_
    refine Runs.iloadN d4_4 rfl <| Runs.aloadN d4_5 rfl <| Runs.getI d4_6 w29 fS_0 <| ?_
    refine ite_el hf (fun hc2 hf => ?_) (fun hc2 hf => ?_)
    · refine Runs.icN d4_9 (tlt hc2).2.1 <| ?_
      refine Runs.iloadN d4_12 rfl <| Runs.iconst d4_13 ci_1 <| ?_
      refine ite_el hf (fun hc3 hf => ?_) (fun hc3 hf => ?_)
      · refine Runs.icY (pc' := 31) d4_14 (tlt hc3).1 (by decide) <| ?_
        obtain rfl := Option.some.inj hf
        exact Runs.iconst d4_31 ci_0 <| Runs.retZ (y := (0 : Int32)) d4_32 rfl ⟨by decide, by decide⟩ rfl ⟨rfl, rfl⟩
      · refine Runs.icN d4_14 (flt hc3).1 <| ?_
        refine Runs.iloadN d4_17 rfl <| Runs.aloadN d4_18 rfl <| Runs.getA d4_19 fA_0 w10 (by decide) <| Runs.iloadN d4_22 rfl <| ?_
        refine chk_el hf fun hi4 hf => ?_
        refine Runs.ialoadA d4_23 fA_0 (by decide) hi4 <| ?_
        refine ite_el hf (fun hc5 hf => ?_) (fun hc5 hf => ?_)
        · refine Runs.icY (pc' := 31) d4_24 (tlt hc5).2.2.1 (by decide) <| ?_
          obtain rfl := Option.some.inj hf
          exact Runs.iconst d4_31 ci_0 <| Runs.retZ (y := (0 : Int32)) d4_32 rfl ⟨by decide, by decide⟩ rfl ⟨rfl, rfl⟩
        · refine Runs.icN d4_24 (flt hc5).2.2.1 <| ?_
          obtain rfl := Option.some.inj hf
          exact Runs.iconst d4_27 ci_1 <| Runs.goto (pc' := 32) d4_28 (by decide) <| Runs.retZ (y := (1 : Int32)) d4_32 rfl ⟨by decide, by decide⟩ rfl ⟨rfl, rfl⟩
    · refine Runs.icY (pc' := 31) d4_9 (flt hc2).2.1 (by decide) <| ?_
      obtain rfl := Option.some.inj hf
      exact Runs.iconst d4_31 ci_0 <| Runs.retZ (y := (0 : Int32)) d4_32 rfl ⟨by decide, by decide⟩ rfl ⟨rfl, rfl⟩
theorem X_exists_pay {C : Ctx} {top : Nat} {a : Nat} {H : List (Nat × Nat × Rec)} {ob : Rec} {res : Int32} {i1 : Int32} {i2 : Int32} (hf : X_exists ob i1 i2 = some res) : Pays C B4 [.ref a, .int i1, .int i2] (top, (a, 9, ob) :: H) (Ans (some (.int res)) (top, (a, 9, ob) :: H)) :=
  Pays.of pnK (Nat.le_of_ble_eq_true rfl) (P := [vr a, vi i1, vi i2]) 0 rfl (X_exists_p i1 i2 hf)
def X_copyIndex (ob : Rec) (i1 : Int32) (i2 : Int32) (i3 : Int32) : Option (Int32) :=
  some (((((i1 * (8 : Int32)) + i2) - (1 : Int32)) * (8 : Int32)) + i3)
set_option maxRecDepth 65536 in
set_option maxHeartbeats 4000000 in
theorem X_copyIndex_p {C : Ctx} {top : Nat} {a : Nat} {H : List (Nat × Nat × Rec)} {ob : Rec} {res : Int32} (i1 : Int32) (i2 : Int32) (i3 : Int32) (hf : X_copyIndex ob i1 i2 i3 = some res) : Runs C B13 0 0 0 [vr a, vi i1, vi i2, vi i3] [] (top, (a, 9, ob) :: H) (Ans (some (.int res)) (top, (a, 9, ob) :: H)) := by
  delta X_copyIndex at hf
  obtain rfl := Option.some.inj hf
  exact Runs.iloadN d13_0 rfl <| Runs.bipush d13_1 cb_8 <| Runs.imul d13_3 <| Runs.iloadN d13_4 rfl <| Runs.iadd d13_5 <| Runs.iconst d13_6 ci_1 <| Runs.isub d13_7 <| Runs.bipush d13_8 cb_8 <| Runs.imul d13_10 <| Runs.iloadN d13_11 rfl <| Runs.iadd d13_12 <| Runs.retI d13_13 rfl ⟨by decide, by decide⟩ ⟨rfl, rfl⟩
theorem X_copyIndex_pay {C : Ctx} {top : Nat} {a : Nat} {H : List (Nat × Nat × Rec)} {ob : Rec} {res : Int32} {i1 : Int32} {i2 : Int32} {i3 : Int32} (hf : X_copyIndex ob i1 i2 i3 = some res) : Pays C B13 [.ref a, .int i1, .int i2, .int i3] (top, (a, 9, ob) :: H) (Ans (some (.int res)) (top, (a, 9, ob) :: H)) :=
  Pays.of pnK (Nat.le_of_ble_eq_true rfl) (P := [vr a, vi i1, vi i2, vi i3]) 0 rfl (X_copyIndex_p i1 i2 i3 hf)
def X_stateIndex (ob : Rec) (i1 : Int32) (i2 : Int32) (i3 : Int32) : Option (Int32) :=
  some ((((i1 * (64 : Int32)) + (i2 * (8 : Int32))) + i3) - (1 : Int32))
set_option maxRecDepth 65536 in
set_option maxHeartbeats 4000000 in
theorem X_stateIndex_p {C : Ctx} {top : Nat} {a : Nat} {H : List (Nat × Nat × Rec)} {ob : Rec} {res : Int32} (i1 : Int32) (i2 : Int32) (i3 : Int32) (hf : X_stateIndex ob i1 i2 i3 = some res) : Runs C B9 0 0 0 [vr a, vi i1, vi i2, vi i3] [] (top, (a, 9, ob) :: H) (Ans (some (.int res)) (top, (a, 9, ob) :: H)) := by
  delta X_stateIndex at hf
  obtain rfl := Option.some.inj hf
  exact Runs.iloadN d9_0 rfl <| Runs.bipush d9_1 cb_64 <| Runs.imul d9_3 <| Runs.iloadN d9_4 rfl <| Runs.bipush d9_5 cb_8 <| Runs.imul d9_7 <| Runs.iadd d9_8 <| Runs.iloadN d9_9 rfl <| Runs.iadd d9_10 <| Runs.iconst d9_11 ci_1 <| Runs.isub d9_12 <| Runs.retI d9_13 rfl ⟨by decide, by decide⟩ ⟨rfl, rfl⟩
theorem X_stateIndex_pay {C : Ctx} {top : Nat} {a : Nat} {H : List (Nat × Nat × Rec)} {ob : Rec} {res : Int32} {i1 : Int32} {i2 : Int32} {i3 : Int32} (hf : X_stateIndex ob i1 i2 i3 = some res) : Pays C B9 [.ref a, .int i1, .int i2, .int i3] (top, (a, 9, ob) :: H) (Ans (some (.int res)) (top, (a, 9, ob) :: H)) :=
  Pays.of pnK (Nat.le_of_ble_eq_true rfl) (P := [vr a, vi i1, vi i2, vi i3]) 0 rfl (X_stateIndex_p i1 i2 i3 hf)
def X_msgIndex (ob : Rec) (i1 : Int32) (i2 : Int32) : Option (Int32) :=
  some (((i1 * (8 : Int32)) + i2) - (1 : Int32))
set_option maxRecDepth 65536 in
set_option maxHeartbeats 4000000 in
theorem X_msgIndex_p {C : Ctx} {top : Nat} {a : Nat} {H : List (Nat × Nat × Rec)} {ob : Rec} {res : Int32} (i1 : Int32) (i2 : Int32) (hf : X_msgIndex ob i1 i2 = some res) : Runs C B7 0 0 0 [vr a, vi i1, vi i2] [] (top, (a, 9, ob) :: H) (Ans (some (.int res)) (top, (a, 9, ob) :: H)) := by
  delta X_msgIndex at hf
  obtain rfl := Option.some.inj hf
  exact Runs.iloadN d7_0 rfl <| Runs.bipush d7_1 cb_8 <| Runs.imul d7_3 <| Runs.iloadN d7_4 rfl <| Runs.iadd d7_5 <| Runs.iconst d7_6 ci_1 <| Runs.isub d7_7 <| Runs.retI d7_8 rfl ⟨by decide, by decide⟩ ⟨rfl, rfl⟩
theorem X_msgIndex_pay {C : Ctx} {top : Nat} {a : Nat} {H : List (Nat × Nat × Rec)} {ob : Rec} {res : Int32} {i1 : Int32} {i2 : Int32} (hf : X_msgIndex ob i1 i2 = some res) : Pays C B7 [.ref a, .int i1, .int i2] (top, (a, 9, ob) :: H) (Ans (some (.int res)) (top, (a, 9, ob) :: H)) :=
  Pays.of pnK (Nat.le_of_ble_eq_true rfl) (P := [vr a, vi i1, vi i2]) 0 rfl (X_msgIndex_p i1 i2 hf)
def X_isDeliverable_w63 (NF : Nat) (ob : Rec) (k63 : Int32 → Int32 → Int32 → Int32 → Option (Int32)) (i1 : Int32) (i2 : Int32) (i5 : Int32) (i6 : Int32) : Option (Int32) :=
  if i6 < (gI ob 0) then
    if i6 = i2 then
      k63 i1 i2 i5 (i6 + (1 : Int32))
    else
      chk (512 : Int32) ((i5 * (8 : Int32)) + i6) <|
      chk (64 : Int32) ((i1 * (8 : Int32)) + i6) <|
      if (gA ob 2 ((i1 * (8 : Int32)) + i6)) < (gA ob 4 ((i5 * (8 : Int32)) + i6)) then
        some (0 : Int32)
      else
        k63 i1 i2 i5 (i6 + (1 : Int32))
  else
    some (1 : Int32)
def X_isDeliverable_l63 (NF : Nat) (ob : Rec) : Nat → Int32 → Int32 → Int32 → Int32 → Option (Int32)
  | 0, _, _, _, _ => none
  | n + 1, i1, i2, i5, i6 => X_isDeliverable_w63 NF ob (X_isDeliverable_l63 NF ob n) i1 i2 i5 i6
set_option maxRecDepth 65536 in
set_option maxHeartbeats 4000000 in
theorem X_isDeliverable_w63_p {C : Ctx} {top : Nat} {a : Nat} {H : List (Nat × Nat × Rec)} {ob : Rec} {res : Int32} {NF : Nat} (k63 : Int32 → Int32 → Int32 → Int32 → Option (Int32)) (hk63 : ∀ (i1 : Int32) (i2 : Int32) (i5 : Int32) (i6 : Int32), k63 i1 i2 i5 i6 = some res → Runs C B15 0 0 63 [vr a, vi i1, vi i2, vn, vn, vi i5, vi i6] [] (top, (a, 9, ob) :: H) (Ans (some (.int res)) (top, (a, 9, ob) :: H))) (i1 : Int32) (i2 : Int32) (i5 : Int32) (i6 : Int32) (hf : X_isDeliverable_w63 NF ob k63 i1 i2 i5 i6 = some res) : Runs C B15 0 0 63 [vr a, vi i1, vi i2, vn, vn, vi i5, vi i6] [] (top, (a, 9, ob) :: H) (Ans (some (.int res)) (top, (a, 9, ob) :: H)) := by
  delta X_isDeliverable_w63 at hf
  refine Runs.iload d15_63 rfl <| Runs.aloadN d15_65 rfl <| Runs.getI d15_66 w29 fS_0 <| ?_
  refine ite_el hf (fun hc1 hf => ?_) (fun hc1 hf => ?_)
  · refine Runs.icN d15_69 (tlt hc1).2.1 <| ?_
    refine Runs.iload d15_72 rfl <| Runs.iloadN d15_74 rfl <| ?_
    refine ite_el hf (fun hc2 hf => ?_) (fun hc2 hf => ?_)
    · refine Runs.icY (pc' := 108) d15_75 (teq hc2).1 (by decide) <| ?_
      exact Runs.iinc (P' := [vr a, vi i1, vi i2, vn, vn, vi i5, vi (i6 + (1 : Int32))]) d15_108 ci_1 rfl (by decide) rfl <| Runs.goto (pc' := 63) d15_111 (by decide) <| hk63 i1 i2 i5 (i6 + (1 : Int32)) hf
    · refine Runs.icN d15_75 (feq hc2).1 <| ?_
      refine Runs.aloadN d15_78 rfl <| Runs.getA d15_79 fA_4 w19 (by decide) <| Runs.iload d15_82 rfl <| Runs.bipush d15_84 cb_8 <| Runs.imul d15_86 <| Runs.iload d15_87 rfl <| Runs.iadd d15_89 <| ?_
      refine chk_el hf fun hi3 hf => ?_
      refine Runs.ialoadA d15_90 fA_4 (by decide) hi3 <| Runs.aloadN d15_91 rfl <| Runs.getA d15_92 fA_2 w15 (by decide) <| Runs.iloadN d15_95 rfl <| Runs.bipush d15_96 cb_8 <| Runs.imul d15_98 <| Runs.iload d15_99 rfl <| Runs.iadd d15_101 <| ?_
      refine chk_el hf fun hi4 hf => ?_
      refine Runs.ialoadA d15_102 fA_2 (by decide) hi4 <| ?_
      refine ite_el hf (fun hc5 hf => ?_) (fun hc5 hf => ?_)
      · refine Runs.icN d15_103 (tlt hc5).2.2.2 <| ?_
        obtain rfl := Option.some.inj hf
        exact Runs.iconst d15_106 ci_0 <| Runs.retZ (y := (0 : Int32)) d15_107 rfl ⟨by decide, by decide⟩ rfl ⟨rfl, rfl⟩
      · refine Runs.icY (pc' := 108) d15_103 (flt hc5).2.2.2 (by decide) <| ?_
        exact Runs.iinc (P' := [vr a, vi i1, vi i2, vn, vn, vi i5, vi (i6 + (1 : Int32))]) d15_108 ci_1 rfl (by decide) rfl <| Runs.goto (pc' := 63) d15_111 (by decide) <| hk63 i1 i2 i5 (i6 + (1 : Int32)) hf
  · refine Runs.icY (pc' := 114) d15_69 (flt hc1).2.1 (by decide) <| ?_
    obtain rfl := Option.some.inj hf
    exact Runs.iconst d15_114 ci_1 <| Runs.retZ (y := (1 : Int32)) d15_115 rfl ⟨by decide, by decide⟩ rfl ⟨rfl, rfl⟩
theorem X_isDeliverable_l63_p {C : Ctx} {top : Nat} {a : Nat} {H : List (Nat × Nat × Rec)} {ob : Rec} {res : Int32} {NF : Nat} (n : Nat) (i1 : Int32) (i2 : Int32) (i5 : Int32) (i6 : Int32) (hf : X_isDeliverable_l63 NF ob n i1 i2 i5 i6 = some res) : Runs C B15 0 0 63 [vr a, vi i1, vi i2, vn, vn, vi i5, vi i6] [] (top, (a, 9, ob) :: H) (Ans (some (.int res)) (top, (a, 9, ob) :: H)) := by
  induction n generalizing i1 i2 i5 i6 with
  | zero => cases (show (none : Option (Int32)) = some res from hf)
  | succ n ih => exact X_isDeliverable_w63_p (X_isDeliverable_l63 NF ob n) (fun i1 i2 i5 i6 h => ih _ _ _ _ h) i1 i2 i5 i6 hf
def X_isDeliverable (NF : Nat) (ob : Rec) (i1 : Int32) (i2 : Int32) (i3 : Int32) : Option (Int32) :=
  (X_exists ob i2 i3).bind fun r6 =>
  if r6 = (0 : Int32) then
    some (0 : Int32)
  else
    (X_stateIndex ob i1 i2 i3).bind fun r9 =>
    chk (512 : Int32) r9 <|
    if (gA ob 3 r9) = (1 : Int32) then
      chk (64 : Int32) ((i1 * (8 : Int32)) + i2) <|
      if i3 = ((gA ob 2 ((i1 * (8 : Int32)) + i2)) + (1 : Int32)) then
        (X_msgIndex ob i2 i3).bind fun r15 =>
        X_isDeliverable_l63 NF ob NF i1 i2 r15 (0 : Int32)
      else
        some (0 : Int32)
    else
      some (0 : Int32)
set_option maxRecDepth 65536 in
set_option maxHeartbeats 4000000 in
theorem X_isDeliverable_p {C : Ctx} {top : Nat} {a : Nat} {H : List (Nat × Nat × Rec)} {ob : Rec} {res : Int32} {NF : Nat} (i1 : Int32) (i2 : Int32) (i3 : Int32) (hf : X_isDeliverable NF ob i1 i2 i3 = some res) : Runs C B15 0 0 0 [vr a, vi i1, vi i2, vi i3, vn, vn, vn] [] (top, (a, 9, ob) :: H) (Ans (some (.int res)) (top, (a, 9, ob) :: H)) := by
  delta X_isDeliverable at hf
  refine Runs.aloadN d15_0 rfl <| Runs.iloadN d15_1 rfl <| Runs.iloadN d15_2 rfl <| ?_
  refine bind_el hf fun r6 hg7 hf => ?_
  refine Runs.callP (N := B4) (W := 0) (as := [.int i2, .int i3]) (S' := []) d15_3 w42 w43 w44 rfl cw4 ar4 rk15_4_0 (by decide) rfl rfl (X_exists_pay hg7) <| ans1 <| ?_
  refine ite_el hf (fun hc8 hf => ?_) (fun hc8 hf => ?_)
  · refine Runs.ifN d15_6 (teq hc8).2 <| ?_
    obtain rfl := Option.some.inj hf
    exact Runs.iconst d15_9 ci_0 <| Runs.retZ (y := (0 : Int32)) d15_10 rfl ⟨by decide, by decide⟩ rfl ⟨rfl, rfl⟩
  · refine Runs.ifY (pc' := 11) d15_6 (feq hc8).2 (by decide) <| ?_
    refine Runs.aloadN d15_11 rfl <| Runs.iloadN d15_12 rfl <| Runs.iloadN d15_13 rfl <| Runs.iloadN d15_14 rfl <| ?_
    refine bind_el hf fun r9 hg10 hf => ?_
    refine Runs.callP (N := B9) (W := 0) (as := [.int i1, .int i2, .int i3]) (S' := []) d15_15 w63 w64 w65 rfl cw9 ar9 rk15_9_0 (by decide) rfl rfl (X_stateIndex_pay hg10) <| ans1 <| Runs.istore (P' := [vr a, vi i1, vi i2, vi i3, vi r9, vn, vn]) d15_18 (by decide) rfl <| Runs.aloadN d15_20 rfl <| Runs.getA d15_21 fA_3 w17 (by decide) <| Runs.iload d15_24 rfl <| ?_
    refine chk_el hf fun hi11 hf => ?_
    refine Runs.ialoadA d15_26 fA_3 (by decide) hi11 <| Runs.iconst d15_27 ci_1 <| ?_
    refine ite_el hf (fun hc12 hf => ?_) (fun hc12 hf => ?_)
    · refine Runs.icY (pc' := 33) d15_28 (teq hc12).1 (by decide) <| ?_
      refine Runs.iloadN d15_33 rfl <| Runs.aloadN d15_34 rfl <| Runs.getA d15_35 fA_2 w15 (by decide) <| Runs.iloadN d15_38 rfl <| Runs.bipush d15_39 cb_8 <| Runs.imul d15_41 <| Runs.iloadN d15_42 rfl <| Runs.iadd d15_43 <| ?_
      refine chk_el hf fun hi13 hf => ?_
      refine Runs.ialoadA d15_44 fA_2 (by decide) hi13 <| Runs.iconst d15_45 ci_1 <| Runs.iadd d15_46 <| ?_
      refine ite_el hf (fun hc14 hf => ?_) (fun hc14 hf => ?_)
      · refine Runs.icY (pc' := 52) d15_47 (teq hc14).1 (by decide) <| ?_
        refine Runs.aloadN d15_52 rfl <| Runs.iloadN d15_53 rfl <| Runs.iloadN d15_54 rfl <| ?_
        refine bind_el hf fun r15 hg16 hf => ?_
        exact Runs.callP (N := B7) (W := 0) (as := [.int i2, .int i3]) (S' := []) d15_55 w55 w56 w57 rfl cw7 ar7 rk15_7_0 (by decide) rfl rfl (X_msgIndex_pay hg16) <| ans1 <| Runs.istore (P' := [vr a, vi i1, vi i2, vi i3, vi r9, vi r15, vn]) d15_58 (by decide) rfl <| Runs.iconst d15_60 ci_0 <| Runs.istore (P' := [vr a, vi i1, vi i2, vi i3, vi r9, vi r15, vi (0 : Int32)]) d15_61 (by decide) rfl <| Runs.forget [true, true, true, false, false, true, true] rfl <| X_isDeliverable_l63_p NF i1 i2 r15 (0 : Int32) hf
      · refine Runs.icN d15_47 (feq hc14).1 <| ?_
        obtain rfl := Option.some.inj hf
        exact Runs.iconst d15_50 ci_0 <| Runs.retZ (y := (0 : Int32)) d15_51 rfl ⟨by decide, by decide⟩ rfl ⟨rfl, rfl⟩
    · refine Runs.icN d15_28 (feq hc12).1 <| ?_
      obtain rfl := Option.some.inj hf
      exact Runs.iconst d15_31 ci_0 <| Runs.retZ (y := (0 : Int32)) d15_32 rfl ⟨by decide, by decide⟩ rfl ⟨rfl, rfl⟩
theorem X_isDeliverable_pay {C : Ctx} {top : Nat} {a : Nat} {H : List (Nat × Nat × Rec)} {ob : Rec} {res : Int32} {NF : Nat} {i1 : Int32} {i2 : Int32} {i3 : Int32} (hf : X_isDeliverable NF ob i1 i2 i3 = some res) : Pays C B15 [.ref a, .int i1, .int i2, .int i3] (top, (a, 9, ob) :: H) (Ans (some (.int res)) (top, (a, 9, ob) :: H)) :=
  Pays.of pnK (Nat.le_of_ble_eq_true rfl) (P := [vr a, vi i1, vi i2, vi i3, vn, vn, vn]) 3 rfl (X_isDeliverable_p i1 i2 i3 hf)
def X_knownIndex (ob : Rec) (i1 : Int32) (i2 : Int32) (i3 : Int32) : Option (Int32) :=
  some (((i1 * (64 : Int32)) + (i2 * (8 : Int32))) + i3)
set_option maxRecDepth 65536 in
set_option maxHeartbeats 4000000 in
theorem X_knownIndex_p {C : Ctx} {top : Nat} {a : Nat} {H : List (Nat × Nat × Rec)} {ob : Rec} {res : Int32} (i1 : Int32) (i2 : Int32) (i3 : Int32) (hf : X_knownIndex ob i1 i2 i3 = some res) : Runs C B10 0 0 0 [vr a, vi i1, vi i2, vi i3] [] (top, (a, 9, ob) :: H) (Ans (some (.int res)) (top, (a, 9, ob) :: H)) := by
  delta X_knownIndex at hf
  obtain rfl := Option.some.inj hf
  exact Runs.iloadN d10_0 rfl <| Runs.bipush d10_1 cb_64 <| Runs.imul d10_3 <| Runs.iloadN d10_4 rfl <| Runs.bipush d10_5 cb_8 <| Runs.imul d10_7 <| Runs.iadd d10_8 <| Runs.iloadN d10_9 rfl <| Runs.iadd d10_10 <| Runs.retI d10_11 rfl ⟨by decide, by decide⟩ ⟨rfl, rfl⟩
theorem X_knownIndex_pay {C : Ctx} {top : Nat} {a : Nat} {H : List (Nat × Nat × Rec)} {ob : Rec} {res : Int32} {i1 : Int32} {i2 : Int32} {i3 : Int32} (hf : X_knownIndex ob i1 i2 i3 = some res) : Pays C B10 [.ref a, .int i1, .int i2, .int i3] (top, (a, 9, ob) :: H) (Ans (some (.int res)) (top, (a, 9, ob) :: H)) :=
  Pays.of pnK (Nat.le_of_ble_eq_true rfl) (P := [vr a, vi i1, vi i2, vi i3]) 0 rfl (X_knownIndex_p i1 i2 i3 hf)
def X_deliverAt_b89 (ob : Rec) (i1 : Int32) (i2 : Int32) : Option (Rec) :=
  (X_knownIndex ob i1 i1 i2).bind fun r1 =>
  chk (64 : Int32) ((i1 * (8 : Int32)) + i2) <|
  chk (512 : Int32) r1 <|
  some (sA ob 6 r1 (gA ob 2 ((i1 * (8 : Int32)) + i2)))
set_option maxRecDepth 65536 in
set_option maxHeartbeats 4000000 in
theorem X_deliverAt_b89_p {C : Ctx} {top : Nat} {a : Nat} {H : List (Nat × Nat × Rec)} {res : Rec} (ob : Rec) (i1 : Int32) (i2 : Int32) (hf : X_deliverAt_b89 ob i1 i2 = some res) : Runs C B8 0 0 89 [vr a, vi i1, vi i2, vn, vn, vn, vn] [] (top, (a, 9, ob) :: H) (Ans none (top, (a, 9, res) :: H)) := by
  delta X_deliverAt_b89 at hf
  refine Runs.aloadN d8_89 rfl <| Runs.iloadN d8_90 rfl <| Runs.iloadN d8_91 rfl <| Runs.iloadN d8_92 rfl <| ?_
  refine bind_el hf fun r1 hg2 hf => ?_
  refine Runs.callP (N := B10) (W := 0) (as := [.int i1, .int i1, .int i2]) (S' := []) d8_93 w67 w68 w69 rfl cw10 ar10 rk8_10_0 (by decide) rfl rfl (X_knownIndex_pay hg2) <| ans1 <| Runs.istore (P' := [vr a, vi i1, vi i2, vn, vn, vn, vi r1]) d8_96 (by decide) rfl <| Runs.aloadN d8_98 rfl <| Runs.getA d8_99 fA_6 w23 (by decide) <| Runs.iload d8_102 rfl <| Runs.aloadN d8_104 rfl <| Runs.getA d8_105 fA_2 w15 (by decide) <| Runs.iloadN d8_108 rfl <| Runs.bipush d8_109 cb_8 <| Runs.imul d8_111 <| Runs.iloadN d8_112 rfl <| Runs.iadd d8_113 <| ?_
  refine chk_el hf fun hi3 hf => ?_
  refine Runs.ialoadA d8_114 fA_2 (by decide) hi3 <| ?_
  refine chk_el hf fun hi4 hf => ?_
  obtain rfl := Option.some.inj hf
  exact Runs.iastoreA d8_115 fA_6 (by decide) hi4 <| Runs.retV d8_116 rfl ⟨by decide, by decide⟩ ⟨rfl, rfl⟩
def X_deliverAt (ob : Rec) (i1 : Int32) (i2 : Int32) (i3 : Int32) : Option (Rec) :=
  (X_stateIndex ob i1 i2 i3).bind fun r5 =>
  chk (512 : Int32) r5 <|
  chk (64 : Int32) ((i1 * (8 : Int32)) + i2) <|
  chk (64 : Int32) ((i1 * (8 : Int32)) + i2) <|
  chk (8 : Int32) i1 <|
  if (gA ob 8 i1) < (0 : Int32) then
    X_deliverAt_b89 (sA (sA ob 3 r5 (2 : Int32)) 2 ((i1 * (8 : Int32)) + i2) ((gA ob 2 ((i1 * (8 : Int32)) + i2)) + (1 : Int32))) i1 i2
  else
    if (gA ob 8 i1) < (64 : Int32) then
      chk (512 : Int32) ((i1 * (64 : Int32)) + (gA ob 8 i1)) <|
      chk (8 : Int32) i1 <|
      X_deliverAt_b89 (sA (sA (sA (sA ob 3 r5 (2 : Int32)) 2 ((i1 * (8 : Int32)) + i2) ((gA ob 2 ((i1 * (8 : Int32)) + i2)) + (1 : Int32))) 7 ((i1 * (64 : Int32)) + (gA ob 8 i1)) ((i2 * (16 : Int32)) + i3)) 8 i1 ((gA ob 8 i1) + (1 : Int32))) i1 i2
    else
      X_deliverAt_b89 (sA (sA ob 3 r5 (2 : Int32)) 2 ((i1 * (8 : Int32)) + i2) ((gA ob 2 ((i1 * (8 : Int32)) + i2)) + (1 : Int32))) i1 i2
set_option maxRecDepth 65536 in
set_option maxHeartbeats 4000000 in
theorem X_deliverAt_p {C : Ctx} {top : Nat} {a : Nat} {H : List (Nat × Nat × Rec)} {res : Rec} (ob : Rec) (i1 : Int32) (i2 : Int32) (i3 : Int32) (hf : X_deliverAt ob i1 i2 i3 = some res) : Runs C B8 0 0 0 [vr a, vi i1, vi i2, vi i3, vn, vn, vn] [] (top, (a, 9, ob) :: H) (Ans none (top, (a, 9, res) :: H)) := by
  delta X_deliverAt at hf
  refine Runs.aloadN d8_0 rfl <| Runs.iloadN d8_1 rfl <| Runs.iloadN d8_2 rfl <| Runs.iloadN d8_3 rfl <| ?_
  refine bind_el hf fun r5 hg6 hf => ?_
  refine Runs.callP (N := B9) (W := 0) (as := [.int i1, .int i2, .int i3]) (S' := []) d8_4 w63 w64 w65 rfl cw9 ar9 rk8_9_0 (by decide) rfl rfl (X_stateIndex_pay hg6) <| ans1 <| Runs.istore (P' := [vr a, vi i1, vi i2, vi i3, vi r5, vn, vn]) d8_7 (by decide) rfl <| Runs.aloadN d8_9 rfl <| Runs.getA d8_10 fA_3 w17 (by decide) <| Runs.iload d8_13 rfl <| Runs.iconst d8_15 ci_2 <| ?_
  refine chk_el hf fun hi7 hf => ?_
  refine Runs.iastoreA d8_16 fA_3 (by decide) hi7 <| Runs.aloadN d8_17 rfl <| Runs.getA d8_18 fA_2 w15 (by decide) <| Runs.iloadN d8_21 rfl <| Runs.bipush d8_22 cb_8 <| Runs.imul d8_24 <| Runs.iloadN d8_25 rfl <| Runs.iadd d8_26 <| Runs.aloadN d8_27 rfl <| Runs.getA d8_28 fA_2 w15 (by decide) <| Runs.iloadN d8_31 rfl <| Runs.bipush d8_32 cb_8 <| ?_
  refine Runs.imul d8_34 <| Runs.iloadN d8_35 rfl <| Runs.iadd d8_36 <| ?_
  refine chk_el hf fun hi8 hf => ?_
  refine Runs.ialoadA d8_37 fA_2 (by decide) hi8 <| Runs.iconst d8_38 ci_1 <| Runs.iadd d8_39 <| ?_
  refine chk_el hf fun hi9 hf => ?_
  refine Runs.iastoreA d8_40 fA_2 (by decide) hi9 <| Runs.aloadN d8_41 rfl <| Runs.getA d8_42 fA_8 w27 (by decide) <| Runs.iloadN d8_45 rfl <| ?_
  refine chk_el hf fun hi10 hf => ?_
  refine Runs.ialoadA d8_46 fA_8 (by decide) hi10 <| Runs.istore (P' := [vr a, vi i1, vi i2, vi i3, vi r5, vi (gA ob 8 i1), vn]) d8_47 (by decide) rfl <| Runs.iload d8_49 rfl <| ?_
  refine ite_el hf (fun hc11 hf => ?_) (fun hc11 hf => ?_)
  · exact Runs.ifY (pc' := 89) d8_51 (tlt hc11).1 (by decide) <| Runs.forget [true, true, true, false, false, false, false] rfl <| X_deliverAt_b89_p (sA (sA ob 3 r5 (2 : Int32)) 2 ((i1 * (8 : Int32)) + i2) ((gA ob 2 ((i1 * (8 : Int32)) + i2)) + (1 : Int32))) i1 i2 hf
  · refine Runs.ifN d8_51 (flt hc11).1 <| ?_
    refine Runs.iload d8_54 rfl <| Runs.bipush d8_56 cb_64 <| ?_
    refine ite_el hf (fun hc12 hf => ?_) (fun hc12 hf => ?_)
    · refine Runs.icN d8_58 (tlt hc12).2.1 <| ?_
      refine Runs.aloadN d8_61 rfl <| Runs.getA d8_62 fA_7 w25 (by decide) <| Runs.iloadN d8_65 rfl <| Runs.bipush d8_66 cb_64 <| Runs.imul d8_68 <| Runs.iload d8_69 rfl <| Runs.iadd d8_71 <| Runs.iloadN d8_72 rfl <| Runs.bipush d8_73 cb_16 <| Runs.imul d8_75 <| Runs.iloadN d8_76 rfl <| Runs.iadd d8_77 <| ?_
      refine chk_el hf fun hi13 hf => ?_
      refine Runs.iastoreA d8_78 fA_7 (by decide) hi13 <| Runs.aloadN d8_79 rfl <| Runs.getA d8_80 fA_8 w27 (by decide) <| Runs.iloadN d8_83 rfl <| Runs.iload d8_84 rfl <| Runs.iconst d8_86 ci_1 <| Runs.iadd d8_87 <| ?_
      refine chk_el hf fun hi14 hf => ?_
      exact Runs.iastoreA d8_88 fA_8 (by decide) hi14 <| Runs.forget [true, true, true, false, false, false, false] rfl <| X_deliverAt_b89_p (sA (sA (sA (sA ob 3 r5 (2 : Int32)) 2 ((i1 * (8 : Int32)) + i2) ((gA ob 2 ((i1 * (8 : Int32)) + i2)) + (1 : Int32))) 7 ((i1 * (64 : Int32)) + (gA ob 8 i1)) ((i2 * (16 : Int32)) + i3)) 8 i1 ((gA ob 8 i1) + (1 : Int32))) i1 i2 hf
    · exact Runs.icY (pc' := 89) d8_58 (flt hc12).2.1 (by decide) <| Runs.forget [true, true, true, false, false, false, false] rfl <| X_deliverAt_b89_p (sA (sA ob 3 r5 (2 : Int32)) 2 ((i1 * (8 : Int32)) + i2) ((gA ob 2 ((i1 * (8 : Int32)) + i2)) + (1 : Int32))) i1 i2 hf
theorem X_deliverAt_pay {C : Ctx} {top : Nat} {a : Nat} {H : List (Nat × Nat × Rec)} {res : Rec} {ob : Rec} {i1 : Int32} {i2 : Int32} {i3 : Int32} (hf : X_deliverAt ob i1 i2 i3 = some res) : Pays C B8 [.ref a, .int i1, .int i2, .int i3] (top, (a, 9, ob) :: H) (Ans none (top, (a, 9, res) :: H)) :=
  Pays.of pnK (Nat.le_of_ble_eq_true rfl) (P := [vr a, vi i1, vi i2, vi i3, vn, vn, vn]) 3 rfl (X_deliverAt_p ob i1 i2 i3 hf)
def X_cascade_b73 (NF : Nat) (k4 : Rec → Int32 → Int32 → Int32 → Option (Int32 × Rec)) (ob : Rec) (i1 : Int32) (i2 : Int32) (i3 : Int32) (i4 : Int32) (i5 : Int32) : Option (Int32 × Rec) :=
  if i4 < (0 : Int32) then
    some (i2, ob)
  else
    (X_deliverAt ob i1 i4 i5).bind fun q8 =>
    k4 q8 i1 (i2 + (1 : Int32)) (i3 + (1 : Int32))
set_option maxRecDepth 65536 in
set_option maxHeartbeats 4000000 in
theorem X_cascade_b73_p {C : Ctx} {top : Nat} {a : Nat} {H : List (Nat × Nat × Rec)} {res : Int32 × Rec} {NF : Nat} (k4 : Rec → Int32 → Int32 → Int32 → Option (Int32 × Rec)) (hk4 : ∀ (ob : Rec) (i1 : Int32) (i2 : Int32) (i3 : Int32), k4 ob i1 i2 i3 = some res → Runs C B14 0 0 4 [vr a, vi i1, vi i2, vi i3, vn, vn, vn, vn] [] (top, (a, 9, ob) :: H) (Ans (some (.int res.1)) (top, (a, 9, res.2) :: H))) (ob : Rec) (i1 : Int32) (i2 : Int32) (i3 : Int32) (i4 : Int32) (i5 : Int32) (hf : X_cascade_b73 NF k4 ob i1 i2 i3 i4 i5 = some res) : Runs C B14 0 0 73 [vr a, vi i1, vi i2, vi i3, vi i4, vi i5, vn, vn] [] (top, (a, 9, ob) :: H) (Ans (some (.int res.1)) (top, (a, 9, res.2) :: H)) := by
  delta X_cascade_b73 at hf
  refine Runs.iload d14_73 rfl <| ?_
  refine ite_el hf (fun hc7 hf => ?_) (fun hc7 hf => ?_)
  · refine Runs.ifN d14_75 (tlt hc7).2.1 <| ?_
    obtain rfl := Option.some.inj hf
    exact Runs.goto (pc' := 99) d14_78 (by decide) <| Runs.iloadN d14_99 rfl <| Runs.retI d14_100 rfl ⟨by decide, by decide⟩ ⟨rfl, rfl⟩
  · refine Runs.ifY (pc' := 81) d14_75 (flt hc7).2.1 (by decide) <| ?_
    refine Runs.aloadN d14_81 rfl <| Runs.iloadN d14_82 rfl <| Runs.iload d14_83 rfl <| Runs.iload d14_85 rfl <| ?_
    refine bind_el hf fun q8 hg9 hf => ?_
    exact Runs.callP (N := B8) (W := 0) (as := [.int i1, .int i4, .int i5]) (S' := []) d14_87 w59 w60 w61 rfl cw8 ar8 rk14_8_0 (by decide) rfl rfl (X_deliverAt_pay hg9) <| ans0 <| Runs.iinc (P' := [vr a, vi i1, vi (i2 + (1 : Int32)), vi i3, vi i4, vi i5, vn, vn]) d14_90 ci_1 rfl (by decide) rfl <| Runs.iinc (P' := [vr a, vi i1, vi (i2 + (1 : Int32)), vi (i3 + (1 : Int32)), vi i4, vi i5, vn, vn]) d14_93 ci_1 rfl (by decide) rfl <| Runs.goto (pc' := 4) d14_96 (by decide) <| Runs.forget [true, true, true, true, false, false, false, false] rfl <| hk4 q8 i1 (i2 + (1 : Int32)) (i3 + (1 : Int32)) hf
def X_cascade_w19 (NF : Nat) (k4 : Rec → Int32 → Int32 → Int32 → Option (Int32 × Rec)) (k19 : Rec → Int32 → Int32 → Int32 → Int32 → Int32 → Int32 → Option (Int32 × Rec)) (ob : Rec) (i1 : Int32) (i2 : Int32) (i3 : Int32) (i4 : Int32) (i5 : Int32) (i6 : Int32) : Option (Int32 × Rec) :=
  if i6 < (gI ob 0) then
    chk (64 : Int32) ((i1 * (8 : Int32)) + i6) <|
    (X_isDeliverable NF ob i1 i6 ((gA ob 2 ((i1 * (8 : Int32)) + i6)) + (1 : Int32))).bind fun r4 =>
    if r4 = (0 : Int32) then
      k19 ob i1 i2 i3 i4 i5 (i6 + (1 : Int32))
    else
      X_cascade_b73 NF k4 ob i1 i2 i3 i6 ((gA ob 2 ((i1 * (8 : Int32)) + i6)) + (1 : Int32))
  else
    X_cascade_b73 NF k4 ob i1 i2 i3 i4 i5
def X_cascade_l19 (NF : Nat) (k4 : Rec → Int32 → Int32 → Int32 → Option (Int32 × Rec)) : Nat → Rec → Int32 → Int32 → Int32 → Int32 → Int32 → Int32 → Option (Int32 × Rec)
  | 0, _, _, _, _, _, _, _ => none
  | n + 1, ob, i1, i2, i3, i4, i5, i6 => X_cascade_w19 NF k4 (X_cascade_l19 NF k4 n) ob i1 i2 i3 i4 i5 i6
set_option maxRecDepth 65536 in
set_option maxHeartbeats 4000000 in
theorem X_cascade_w19_p {C : Ctx} {top : Nat} {a : Nat} {H : List (Nat × Nat × Rec)} {res : Int32 × Rec} {NF : Nat} (k4 : Rec → Int32 → Int32 → Int32 → Option (Int32 × Rec)) (hk4 : ∀ (ob : Rec) (i1 : Int32) (i2 : Int32) (i3 : Int32), k4 ob i1 i2 i3 = some res → Runs C B14 0 0 4 [vr a, vi i1, vi i2, vi i3, vn, vn, vn, vn] [] (top, (a, 9, ob) :: H) (Ans (some (.int res.1)) (top, (a, 9, res.2) :: H))) (k19 : Rec → Int32 → Int32 → Int32 → Int32 → Int32 → Int32 → Option (Int32 × Rec)) (hk19 : ∀ (ob : Rec) (i1 : Int32) (i2 : Int32) (i3 : Int32) (i4 : Int32) (i5 : Int32) (i6 : Int32), k19 ob i1 i2 i3 i4 i5 i6 = some res → Runs C B14 0 0 19 [vr a, vi i1, vi i2, vi i3, vi i4, vi i5, vi i6, vn] [] (top, (a, 9, ob) :: H) (Ans (some (.int res.1)) (top, (a, 9, res.2) :: H))) (ob : Rec) (i1 : Int32) (i2 : Int32) (i3 : Int32) (i4 : Int32) (i5 : Int32) (i6 : Int32) (hf : X_cascade_w19 NF k4 k19 ob i1 i2 i3 i4 i5 i6 = some res) : Runs C B14 0 0 19 [vr a, vi i1, vi i2, vi i3, vi i4, vi i5, vi i6, vn] [] (top, (a, 9, ob) :: H) (Ans (some (.int res.1)) (top, (a, 9, res.2) :: H)) := by
  delta X_cascade_w19 at hf
  refine Runs.iload d14_19 rfl <| Runs.aloadN d14_21 rfl <| Runs.getI d14_22 w29 fS_0 <| ?_
  refine ite_el hf (fun hc2 hf => ?_) (fun hc2 hf => ?_)
  · refine Runs.icN d14_25 (tlt hc2).2.1 <| ?_
    refine Runs.aloadN d14_28 rfl <| Runs.getA d14_29 fA_2 w15 (by decide) <| Runs.iloadN d14_32 rfl <| Runs.bipush d14_33 cb_8 <| Runs.imul d14_35 <| Runs.iload d14_36 rfl <| Runs.iadd d14_38 <| ?_
    refine chk_el hf fun hi3 hf => ?_
    refine Runs.ialoadA d14_39 fA_2 (by decide) hi3 <| Runs.iconst d14_40 ci_1 <| Runs.iadd d14_41 <| Runs.istore (P' := [vr a, vi i1, vi i2, vi i3, vi i4, vi i5, vi i6, vi ((gA ob 2 ((i1 * (8 : Int32)) + i6)) + (1 : Int32))]) d14_42 (by decide) rfl <| Runs.aloadN d14_44 rfl <| Runs.iloadN d14_45 rfl <| Runs.iload d14_46 rfl <| Runs.iload d14_48 rfl <| ?_
    refine bind_el hf fun r4 hg5 hf => ?_
    refine Runs.callP (N := B15) (W := 0) (as := [.int i1, .int i6, .int ((gA ob 2 ((i1 * (8 : Int32)) + i6)) + (1 : Int32))]) (S' := []) d14_50 w89 w90 w91 rfl cw15 ar15 rk14_15_0 (by decide) rfl rfl (X_isDeliverable_pay hg5) <| ans1 <| ?_
    refine ite_el hf (fun hc6 hf => ?_) (fun hc6 hf => ?_)
    · refine Runs.ifY (pc' := 67) d14_53 (teq hc6).1 (by decide) <| ?_
      exact Runs.iinc (P' := [vr a, vi i1, vi i2, vi i3, vi i4, vi i5, vi (i6 + (1 : Int32)), vi ((gA ob 2 ((i1 * (8 : Int32)) + i6)) + (1 : Int32))]) d14_67 ci_1 rfl (by decide) rfl <| Runs.goto (pc' := 19) d14_70 (by decide) <| Runs.forget [true, true, true, true, true, true, true, false] rfl <| hk19 ob i1 i2 i3 i4 i5 (i6 + (1 : Int32)) hf
    · refine Runs.ifN d14_53 (feq hc6).1 <| ?_
      exact Runs.iload d14_56 rfl <| Runs.istore (P' := [vr a, vi i1, vi i2, vi i3, vi i6, vi i5, vi i6, vi ((gA ob 2 ((i1 * (8 : Int32)) + i6)) + (1 : Int32))]) d14_58 (by decide) rfl <| Runs.iload d14_60 rfl <| Runs.istore (P' := [vr a, vi i1, vi i2, vi i3, vi i6, vi ((gA ob 2 ((i1 * (8 : Int32)) + i6)) + (1 : Int32)), vi i6, vi ((gA ob 2 ((i1 * (8 : Int32)) + i6)) + (1 : Int32))]) d14_62 (by decide) rfl <| Runs.goto (pc' := 73) d14_64 (by decide) <| Runs.forget [true, true, true, true, true, true, false, false] rfl <| X_cascade_b73_p k4 hk4 ob i1 i2 i3 i6 ((gA ob 2 ((i1 * (8 : Int32)) + i6)) + (1 : Int32)) hf
  · exact Runs.icY (pc' := 73) d14_25 (flt hc2).2.1 (by decide) <| Runs.forget [true, true, true, true, true, true, false, false] rfl <| X_cascade_b73_p k4 hk4 ob i1 i2 i3 i4 i5 hf
theorem X_cascade_l19_p {C : Ctx} {top : Nat} {a : Nat} {H : List (Nat × Nat × Rec)} {res : Int32 × Rec} {NF : Nat} (k4 : Rec → Int32 → Int32 → Int32 → Option (Int32 × Rec)) (hk4 : ∀ (ob : Rec) (i1 : Int32) (i2 : Int32) (i3 : Int32), k4 ob i1 i2 i3 = some res → Runs C B14 0 0 4 [vr a, vi i1, vi i2, vi i3, vn, vn, vn, vn] [] (top, (a, 9, ob) :: H) (Ans (some (.int res.1)) (top, (a, 9, res.2) :: H))) (n : Nat) (ob : Rec) (i1 : Int32) (i2 : Int32) (i3 : Int32) (i4 : Int32) (i5 : Int32) (i6 : Int32) (hf : X_cascade_l19 NF k4 n ob i1 i2 i3 i4 i5 i6 = some res) : Runs C B14 0 0 19 [vr a, vi i1, vi i2, vi i3, vi i4, vi i5, vi i6, vn] [] (top, (a, 9, ob) :: H) (Ans (some (.int res.1)) (top, (a, 9, res.2) :: H)) := by
  induction n generalizing ob i1 i2 i3 i4 i5 i6 with
  | zero => cases (show (none : Option (Int32 × Rec)) = some res from hf)
  | succ n ih => exact X_cascade_w19_p k4 hk4 (X_cascade_l19 NF k4 n) (fun ob i1 i2 i3 i4 i5 i6 h => ih _ _ _ _ _ _ _ h) ob i1 i2 i3 i4 i5 i6 hf
def X_cascade_w4 (NF : Nat) (k4 : Rec → Int32 → Int32 → Int32 → Option (Int32 × Rec)) (ob : Rec) (i1 : Int32) (i2 : Int32) (i3 : Int32) : Option (Int32 × Rec) :=
  if i3 < (65 : Int32) then
    X_cascade_l19 NF k4 NF ob i1 i2 i3 (-1 : Int32) (0 : Int32) (0 : Int32)
  else
    some (i2, ob)
def X_cascade_l4 (NF : Nat) : Nat → Rec → Int32 → Int32 → Int32 → Option (Int32 × Rec)
  | 0, _, _, _, _ => none
  | n + 1, ob, i1, i2, i3 => X_cascade_w4 NF (X_cascade_l4 NF n) ob i1 i2 i3
set_option maxRecDepth 65536 in
set_option maxHeartbeats 4000000 in
theorem X_cascade_w4_p {C : Ctx} {top : Nat} {a : Nat} {H : List (Nat × Nat × Rec)} {res : Int32 × Rec} {NF : Nat} (k4 : Rec → Int32 → Int32 → Int32 → Option (Int32 × Rec)) (hk4 : ∀ (ob : Rec) (i1 : Int32) (i2 : Int32) (i3 : Int32), k4 ob i1 i2 i3 = some res → Runs C B14 0 0 4 [vr a, vi i1, vi i2, vi i3, vn, vn, vn, vn] [] (top, (a, 9, ob) :: H) (Ans (some (.int res.1)) (top, (a, 9, res.2) :: H))) (ob : Rec) (i1 : Int32) (i2 : Int32) (i3 : Int32) (hf : X_cascade_w4 NF k4 ob i1 i2 i3 = some res) : Runs C B14 0 0 4 [vr a, vi i1, vi i2, vi i3, vn, vn, vn, vn] [] (top, (a, 9, ob) :: H) (Ans (some (.int res.1)) (top, (a, 9, res.2) :: H)) := by
  delta X_cascade_w4 at hf
  refine Runs.iloadN d14_4 rfl <| Runs.bipush d14_5 cb_65 <| ?_
  refine ite_el hf (fun hc1 hf => ?_) (fun hc1 hf => ?_)
  · refine Runs.icN d14_7 (tlt hc1).2.1 <| ?_
    exact Runs.iconst d14_10 ci_m1 <| Runs.istore (P' := [vr a, vi i1, vi i2, vi i3, vi (-1 : Int32), vn, vn, vn]) d14_11 (by decide) rfl <| Runs.iconst d14_13 ci_0 <| Runs.istore (P' := [vr a, vi i1, vi i2, vi i3, vi (-1 : Int32), vi (0 : Int32), vn, vn]) d14_14 (by decide) rfl <| Runs.iconst d14_16 ci_0 <| Runs.istore (P' := [vr a, vi i1, vi i2, vi i3, vi (-1 : Int32), vi (0 : Int32), vi (0 : Int32), vn]) d14_17 (by decide) rfl <| X_cascade_l19_p k4 hk4 NF ob i1 i2 i3 (-1 : Int32) (0 : Int32) (0 : Int32) hf
  · refine Runs.icY (pc' := 99) d14_7 (flt hc1).2.1 (by decide) <| ?_
    obtain rfl := Option.some.inj hf
    exact Runs.iloadN d14_99 rfl <| Runs.retI d14_100 rfl ⟨by decide, by decide⟩ ⟨rfl, rfl⟩
theorem X_cascade_l4_p {C : Ctx} {top : Nat} {a : Nat} {H : List (Nat × Nat × Rec)} {res : Int32 × Rec} {NF : Nat} (n : Nat) (ob : Rec) (i1 : Int32) (i2 : Int32) (i3 : Int32) (hf : X_cascade_l4 NF n ob i1 i2 i3 = some res) : Runs C B14 0 0 4 [vr a, vi i1, vi i2, vi i3, vn, vn, vn, vn] [] (top, (a, 9, ob) :: H) (Ans (some (.int res.1)) (top, (a, 9, res.2) :: H)) := by
  induction n generalizing ob i1 i2 i3 with
  | zero => cases (show (none : Option (Int32 × Rec)) = some res from hf)
  | succ n ih => exact X_cascade_w4_p (X_cascade_l4 NF n) (fun ob i1 i2 i3 h => ih _ _ _ _ h) ob i1 i2 i3 hf
def X_cascade (NF : Nat) (ob : Rec) (i1 : Int32) : Option (Int32 × Rec) :=
  X_cascade_l4 NF NF ob i1 (0 : Int32) (0 : Int32)
set_option maxRecDepth 65536 in
set_option maxHeartbeats 4000000 in
theorem X_cascade_p {C : Ctx} {top : Nat} {a : Nat} {H : List (Nat × Nat × Rec)} {res : Int32 × Rec} {NF : Nat} (ob : Rec) (i1 : Int32) (hf : X_cascade NF ob i1 = some res) : Runs C B14 0 0 0 [vr a, vi i1, vn, vn, vn, vn, vn, vn] [] (top, (a, 9, ob) :: H) (Ans (some (.int res.1)) (top, (a, 9, res.2) :: H)) := by
  delta X_cascade at hf
  exact Runs.iconst d14_0 ci_0 <| Runs.istoreN (P' := [vr a, vi i1, vi (0 : Int32), vn, vn, vn, vn, vn]) d14_1 (by decide) rfl <| Runs.iconst d14_2 ci_0 <| Runs.istoreN (P' := [vr a, vi i1, vi (0 : Int32), vi (0 : Int32), vn, vn, vn, vn]) d14_3 (by decide) rfl <| X_cascade_l4_p NF ob i1 (0 : Int32) (0 : Int32) hf
theorem X_cascade_pay {C : Ctx} {top : Nat} {a : Nat} {H : List (Nat × Nat × Rec)} {res : Int32 × Rec} {NF : Nat} {ob : Rec} {i1 : Int32} (hf : X_cascade NF ob i1 = some res) : Pays C B14 [.ref a, .int i1] (top, (a, 9, ob) :: H) (Ans (some (.int res.1)) (top, (a, 9, res.2) :: H)) :=
  Pays.of pnK (Nat.le_of_ble_eq_true rfl) (P := [vr a, vi i1, vn, vn, vn, vn, vn, vn]) 6 rfl (X_cascade_p ob i1 hf)
def X_receive (NF : Nat) (ob : Rec) (i1 : Int32) (i2 : Int32) (i3 : Int32) : Option (Int32 × Rec) :=
  (X_validProc ob i1).bind fun r1 =>
  if r1 = (0 : Int32) then
    some ((-1 : Int32), ob)
  else
    (X_exists ob i2 i3).bind fun r4 =>
    if r4 = (0 : Int32) then
      some ((-1 : Int32), ob)
    else
      chk (8 : Int32) i1 <|
      if (gA ob 1 i1) = (0 : Int32) then
        (X_copyIndex ob i2 i3 i1).bind fun r9 =>
        chk (512 : Int32) r9 <|
        if (gA ob 5 r9) = (0 : Int32) then
          some ((-4 : Int32), ob)
        else
          chk (512 : Int32) r9 <|
          chk (512 : Int32) r9 <|
          (X_stateIndex (sA ob 5 r9 ((gA ob 5 r9) - (1 : Int32))) i1 i2 i3).bind fun r15 =>
          chk (512 : Int32) r15 <|
          if (gA ob 3 r15) = (0 : Int32) then
            chk (512 : Int32) r15 <|
            bind2 (X_cascade NF (sA (sA ob 5 r9 ((gA ob 5 r9) - (1 : Int32))) 3 r15 (1 : Int32)) i1) fun r20 q21 =>
            some (r20, q21)
          else
            some ((-5 : Int32), (sA ob 5 r9 ((gA ob 5 r9) - (1 : Int32))))
      else
        some ((-2 : Int32), ob)
set_option maxRecDepth 65536 in
set_option maxHeartbeats 4000000 in
theorem X_receive_p {C : Ctx} {top : Nat} {a : Nat} {H : List (Nat × Nat × Rec)} {res : Int32 × Rec} {NF : Nat} (ob : Rec) (i1 : Int32) (i2 : Int32) (i3 : Int32) (hf : X_receive NF ob i1 i2 i3 = some res) : Runs C B12 0 0 0 [vr a, vi i1, vi i2, vi i3, vn, vn] [] (top, (a, 9, ob) :: H) (Ans (some (.int res.1)) (top, (a, 9, res.2) :: H)) := by
  delta X_receive at hf
  refine Runs.aloadN d12_0 rfl <| Runs.iloadN d12_1 rfl <| ?_
  refine bind_el hf fun r1 hg2 hf => ?_
  refine Runs.callP (N := B6) (W := 0) (as := [.int i1]) (S' := []) d12_2 w51 w52 w53 rfl cw6 ar6 rk12_6_0 (by decide) rfl rfl (X_validProc_pay hg2) <| ans1 <| ?_
  refine ite_el hf (fun hc3 hf => ?_) (fun hc3 hf => ?_)
  · refine Runs.ifY (pc' := 17) d12_5 (teq hc3).1 (by decide) <| ?_
    obtain rfl := Option.some.inj hf
    exact Runs.iconst d12_17 ci_m1 <| Runs.retI d12_18 rfl ⟨by decide, by decide⟩ ⟨rfl, rfl⟩
  · refine Runs.ifN d12_5 (feq hc3).1 <| ?_
    refine Runs.aloadN d12_8 rfl <| Runs.iloadN d12_9 rfl <| Runs.iloadN d12_10 rfl <| ?_
    refine bind_el hf fun r4 hg5 hf => ?_
    refine Runs.callP (N := B4) (W := 0) (as := [.int i2, .int i3]) (S' := []) d12_11 w42 w43 w44 rfl cw4 ar4 rk12_4_0 (by decide) rfl rfl (X_exists_pay hg5) <| ans1 <| ?_
    refine ite_el hf (fun hc6 hf => ?_) (fun hc6 hf => ?_)
    · refine Runs.ifN d12_14 (teq hc6).2 <| ?_
      obtain rfl := Option.some.inj hf
      exact Runs.iconst d12_17 ci_m1 <| Runs.retI d12_18 rfl ⟨by decide, by decide⟩ ⟨rfl, rfl⟩
    · refine Runs.ifY (pc' := 19) d12_14 (feq hc6).2 (by decide) <| ?_
      refine Runs.aloadN d12_19 rfl <| Runs.getA d12_20 fA_1 w13 (by decide) <| Runs.iloadN d12_23 rfl <| ?_
      refine chk_el hf fun hi7 hf => ?_
      refine Runs.baloadA d12_24 fA_1 (by decide) hi7 <| ?_
      refine ite_el hf (fun hc8 hf => ?_) (fun hc8 hf => ?_)
      · refine Runs.ifY (pc' := 31) d12_25 (teq hc8).1 (by decide) <| ?_
        refine Runs.aloadN d12_31 rfl <| Runs.iloadN d12_32 rfl <| Runs.iloadN d12_33 rfl <| Runs.iloadN d12_34 rfl <| ?_
        refine bind_el hf fun r9 hg10 hf => ?_
        refine Runs.callP (N := B13) (W := 0) (as := [.int i2, .int i3, .int i1]) (S' := []) d12_35 w81 w82 w83 rfl cw13 ar13 rk12_13_0 (by decide) rfl rfl (X_copyIndex_pay hg10) <| ans1 <| Runs.istore (P' := [vr a, vi i1, vi i2, vi i3, vi r9, vn]) d12_38 (by decide) rfl <| Runs.aloadN d12_40 rfl <| Runs.getA d12_41 fA_5 w21 (by decide) <| Runs.iload d12_44 rfl <| ?_
        refine chk_el hf fun hi11 hf => ?_
        refine Runs.ialoadA d12_46 fA_5 (by decide) hi11 <| ?_
        refine ite_el hf (fun hc12 hf => ?_) (fun hc12 hf => ?_)
        · refine Runs.ifN d12_47 (teq hc12).2 <| ?_
          obtain rfl := Option.some.inj hf
          exact Runs.bipush d12_50 cb_m4 <| Runs.retI d12_52 rfl ⟨by decide, by decide⟩ ⟨rfl, rfl⟩
        · refine Runs.ifY (pc' := 53) d12_47 (feq hc12).2 (by decide) <| ?_
          refine Runs.aloadN d12_53 rfl <| Runs.getA d12_54 fA_5 w21 (by decide) <| Runs.iload d12_57 rfl <| Runs.aloadN d12_59 rfl <| Runs.getA d12_60 fA_5 w21 (by decide) <| Runs.iload d12_63 rfl <| ?_
          refine chk_el hf fun hi13 hf => ?_
          refine Runs.ialoadA d12_65 fA_5 (by decide) hi13 <| Runs.iconst d12_66 ci_1 <| Runs.isub d12_67 <| ?_
          refine chk_el hf fun hi14 hf => ?_
          refine Runs.iastoreA d12_68 fA_5 (by decide) hi14 <| Runs.aloadN d12_69 rfl <| Runs.iloadN d12_70 rfl <| Runs.iloadN d12_71 rfl <| Runs.iloadN d12_72 rfl <| ?_
          refine bind_el hf fun r15 hg16 hf => ?_
          refine Runs.callP (N := B9) (W := 0) (as := [.int i1, .int i2, .int i3]) (S' := []) d12_73 w63 w64 w65 rfl cw9 ar9 rk12_9_0 (by decide) rfl rfl (X_stateIndex_pay hg16) <| ans1 <| Runs.istore (P' := [vr a, vi i1, vi i2, vi i3, vi r9, vi r15]) d12_76 (by decide) rfl <| Runs.aloadN d12_78 rfl <| Runs.getA d12_79 fA_3 w17 (by decide) <| Runs.iload d12_82 rfl <| ?_
          refine chk_el hf fun hi17 hf => ?_
          refine Runs.ialoadA d12_84 fA_3 (by decide) hi17 <| ?_
          refine ite_el hf (fun hc18 hf => ?_) (fun hc18 hf => ?_)
          · refine Runs.ifY (pc' := 91) d12_85 (teq hc18).1 (by decide) <| ?_
            refine Runs.aloadN d12_91 rfl <| Runs.getA d12_92 fA_3 w17 (by decide) <| Runs.iload d12_95 rfl <| Runs.iconst d12_97 ci_1 <| ?_
            refine chk_el hf fun hi19 hf => ?_
            refine Runs.iastoreA d12_98 fA_3 (by decide) hi19 <| Runs.aloadN d12_99 rfl <| Runs.iloadN d12_100 rfl <| ?_
            refine bind2_el hf fun r20 q21 hg22 hf => ?_
            obtain rfl := Option.some.inj hf
            exact Runs.callP (N := B14) (W := 0) (as := [.int i1]) (S' := []) d12_101 w85 w86 w87 rfl cw14 ar14 rk12_14_0 (by decide) rfl rfl (X_cascade_pay hg22) <| ans1 <| Runs.retI d12_104 rfl ⟨by decide, by decide⟩ ⟨rfl, rfl⟩
          · refine Runs.ifN d12_85 (feq hc18).1 <| ?_
            obtain rfl := Option.some.inj hf
            exact Runs.bipush d12_88 cb_m5 <| Runs.retI d12_90 rfl ⟨by decide, by decide⟩ ⟨rfl, rfl⟩
      · refine Runs.ifN d12_25 (feq hc8).1 <| ?_
        obtain rfl := Option.some.inj hf
        exact Runs.bipush d12_28 cb_m2 <| Runs.retI d12_30 rfl ⟨by decide, by decide⟩ ⟨rfl, rfl⟩
theorem X_receive_pay {C : Ctx} {top : Nat} {a : Nat} {H : List (Nat × Nat × Rec)} {res : Int32 × Rec} {NF : Nat} {ob : Rec} {i1 : Int32} {i2 : Int32} {i3 : Int32} (hf : X_receive NF ob i1 i2 i3 = some res) : Pays C B12 [.ref a, .int i1, .int i2, .int i3] (top, (a, 9, ob) :: H) (Ans (some (.int res.1)) (top, (a, 9, res.2) :: H)) :=
  Pays.of pnK (Nat.le_of_ble_eq_true rfl) (P := [vr a, vi i1, vi i2, vi i3, vn, vn]) 2 rfl (X_receive_p ob i1 i2 i3 hf)
def X_state (ob : Rec) (i1 : Int32) (i2 : Int32) (i3 : Int32) : Option (Int32) :=
  (X_validProc ob i1).bind fun r1 =>
  if r1 = (0 : Int32) then
    some (-1 : Int32)
  else
    (X_exists ob i2 i3).bind fun r4 =>
    if r4 = (0 : Int32) then
      some (-1 : Int32)
    else
      (X_stateIndex ob i1 i2 i3).bind fun r7 =>
      chk (512 : Int32) r7 <|
      some (gA ob 3 r7)
set_option maxRecDepth 65536 in
set_option maxHeartbeats 4000000 in
theorem X_state_p {C : Ctx} {top : Nat} {a : Nat} {H : List (Nat × Nat × Rec)} {ob : Rec} {res : Int32} (i1 : Int32) (i2 : Int32) (i3 : Int32) (hf : X_state ob i1 i2 i3 = some res) : Runs C B16 0 0 0 [vr a, vi i1, vi i2, vi i3, vn] [] (top, (a, 9, ob) :: H) (Ans (some (.int res)) (top, (a, 9, ob) :: H)) := by
  delta X_state at hf
  refine Runs.aloadN d16_0 rfl <| Runs.iloadN d16_1 rfl <| ?_
  refine bind_el hf fun r1 hg2 hf => ?_
  refine Runs.callP (N := B6) (W := 0) (as := [.int i1]) (S' := []) d16_2 w51 w52 w53 rfl cw6 ar6 rk16_6_0 (by decide) rfl rfl (X_validProc_pay hg2) <| ans1 <| ?_
  refine ite_el hf (fun hc3 hf => ?_) (fun hc3 hf => ?_)
  · refine Runs.ifY (pc' := 17) d16_5 (teq hc3).1 (by decide) <| ?_
    obtain rfl := Option.some.inj hf
    exact Runs.iconst d16_17 ci_m1 <| Runs.retI d16_18 rfl ⟨by decide, by decide⟩ ⟨rfl, rfl⟩
  · refine Runs.ifN d16_5 (feq hc3).1 <| ?_
    refine Runs.aloadN d16_8 rfl <| Runs.iloadN d16_9 rfl <| Runs.iloadN d16_10 rfl <| ?_
    refine bind_el hf fun r4 hg5 hf => ?_
    refine Runs.callP (N := B4) (W := 0) (as := [.int i2, .int i3]) (S' := []) d16_11 w42 w43 w44 rfl cw4 ar4 rk16_4_0 (by decide) rfl rfl (X_exists_pay hg5) <| ans1 <| ?_
    refine ite_el hf (fun hc6 hf => ?_) (fun hc6 hf => ?_)
    · refine Runs.ifN d16_14 (teq hc6).2 <| ?_
      obtain rfl := Option.some.inj hf
      exact Runs.iconst d16_17 ci_m1 <| Runs.retI d16_18 rfl ⟨by decide, by decide⟩ ⟨rfl, rfl⟩
    · refine Runs.ifY (pc' := 19) d16_14 (feq hc6).2 (by decide) <| ?_
      refine Runs.aloadN d16_19 rfl <| Runs.iloadN d16_20 rfl <| Runs.iloadN d16_21 rfl <| Runs.iloadN d16_22 rfl <| ?_
      refine bind_el hf fun r7 hg8 hf => ?_
      refine Runs.callP (N := B9) (W := 0) (as := [.int i1, .int i2, .int i3]) (S' := []) d16_23 w63 w64 w65 rfl cw9 ar9 rk16_9_0 (by decide) rfl rfl (X_stateIndex_pay hg8) <| ans1 <| Runs.istore (P' := [vr a, vi i1, vi i2, vi i3, vi r7]) d16_26 (by decide) rfl <| Runs.aloadN d16_28 rfl <| Runs.getA d16_29 fA_3 w17 (by decide) <| Runs.iload d16_32 rfl <| ?_
      refine chk_el hf fun hi9 hf => ?_
      obtain rfl := Option.some.inj hf
      exact Runs.ialoadA d16_34 fA_3 (by decide) hi9 <| Runs.retI d16_35 rfl ⟨by decide, by decide⟩ ⟨rfl, rfl⟩
theorem X_state_pay {C : Ctx} {top : Nat} {a : Nat} {H : List (Nat × Nat × Rec)} {ob : Rec} {res : Int32} {i1 : Int32} {i2 : Int32} {i3 : Int32} (hf : X_state ob i1 i2 i3 = some res) : Pays C B16 [.ref a, .int i1, .int i2, .int i3] (top, (a, 9, ob) :: H) (Ans (some (.int res)) (top, (a, 9, ob) :: H)) :=
  Pays.of pnK (Nat.le_of_ble_eq_true rfl) (P := [vr a, vi i1, vi i2, vi i3, vn]) 1 rfl (X_state_p i1 i2 i3 hf)
def X_isCrashed (ob : Rec) (i1 : Int32) : Option (Int32) :=
  (X_validProc ob i1).bind fun r1 =>
  if r1 = (0 : Int32) then
    some (0 : Int32)
  else
    chk (8 : Int32) i1 <|
    some ((gA ob 1 i1) &&& 1)
set_option maxRecDepth 65536 in
set_option maxHeartbeats 4000000 in
theorem X_isCrashed_p {C : Ctx} {top : Nat} {a : Nat} {H : List (Nat × Nat × Rec)} {ob : Rec} {res : Int32} (i1 : Int32) (hf : X_isCrashed ob i1 = some res) : Runs C B17 0 0 0 [vr a, vi i1] [] (top, (a, 9, ob) :: H) (Ans (some (.int res)) (top, (a, 9, ob) :: H)) := by
  delta X_isCrashed at hf
  refine Runs.aloadN d17_0 rfl <| Runs.iloadN d17_1 rfl <| ?_
  refine bind_el hf fun r1 hg2 hf => ?_
  refine Runs.callP (N := B6) (W := 0) (as := [.int i1]) (S' := []) d17_2 w51 w52 w53 rfl cw6 ar6 rk17_6_0 (by decide) rfl rfl (X_validProc_pay hg2) <| ans1 <| ?_
  refine ite_el hf (fun hc3 hf => ?_) (fun hc3 hf => ?_)
  · refine Runs.ifN d17_5 (teq hc3).2 <| ?_
    obtain rfl := Option.some.inj hf
    exact Runs.iconst d17_8 ci_0 <| Runs.retZ (y := (0 : Int32)) d17_9 rfl ⟨by decide, by decide⟩ rfl ⟨rfl, rfl⟩
  · refine Runs.ifY (pc' := 10) d17_5 (feq hc3).2 (by decide) <| ?_
    refine Runs.aloadN d17_10 rfl <| Runs.getA d17_11 fA_1 w13 (by decide) <| Runs.iloadN d17_14 rfl <| ?_
    refine chk_el hf fun hi4 hf => ?_
    obtain rfl := Option.some.inj hf
    exact Runs.baloadA d17_15 fA_1 (by decide) hi4 <| Runs.retZ (y := ((gA ob 1 i1) &&& 1)) d17_16 rfl ⟨by decide, by decide⟩ rfl ⟨rfl, rfl⟩
theorem X_isCrashed_pay {C : Ctx} {top : Nat} {a : Nat} {H : List (Nat × Nat × Rec)} {ob : Rec} {res : Int32} {i1 : Int32} (hf : X_isCrashed ob i1 = some res) : Pays C B17 [.ref a, .int i1] (top, (a, 9, ob) :: H) (Ans (some (.int res)) (top, (a, 9, ob) :: H)) :=
  Pays.of pnK (Nat.le_of_ble_eq_true rfl) (P := [vr a, vi i1]) 0 rfl (X_isCrashed_p i1 hf)
def X_drop (ob : Rec) (i1 : Int32) (i2 : Int32) (i3 : Int32) : Option (Int32 × Rec) :=
  (X_exists ob i1 i2).bind fun r1 =>
  if r1 = (0 : Int32) then
    some ((-1 : Int32), ob)
  else
    (X_validProc ob i3).bind fun r4 =>
    if r4 = (0 : Int32) then
      some ((-1 : Int32), ob)
    else
      (X_copyIndex ob i1 i2 i3).bind fun r7 =>
      chk (512 : Int32) r7 <|
      if (gA ob 5 r7) = (0 : Int32) then
        some ((-4 : Int32), ob)
      else
        chk (512 : Int32) r7 <|
        chk (512 : Int32) r7 <|
        chk (512 : Int32) r7 <|
        some ((gA (sA ob 5 r7 ((gA ob 5 r7) - (1 : Int32))) 5 r7), (sA ob 5 r7 ((gA ob 5 r7) - (1 : Int32))))
set_option maxRecDepth 65536 in
set_option maxHeartbeats 4000000 in
theorem X_drop_p {C : Ctx} {top : Nat} {a : Nat} {H : List (Nat × Nat × Rec)} {res : Int32 × Rec} (ob : Rec) (i1 : Int32) (i2 : Int32) (i3 : Int32) (hf : X_drop ob i1 i2 i3 = some res) : Runs C B3 0 0 0 [vr a, vi i1, vi i2, vi i3, vn] [] (top, (a, 9, ob) :: H) (Ans (some (.int res.1)) (top, (a, 9, res.2) :: H)) := by
  delta X_drop at hf
  refine Runs.aloadN d3_0 rfl <| Runs.iloadN d3_1 rfl <| Runs.iloadN d3_2 rfl <| ?_
  refine bind_el hf fun r1 hg2 hf => ?_
  refine Runs.callP (N := B4) (W := 0) (as := [.int i1, .int i2]) (S' := []) d3_3 w42 w43 w44 rfl cw4 ar4 rk3_4_0 (by decide) rfl rfl (X_exists_pay hg2) <| ans1 <| ?_
  refine ite_el hf (fun hc3 hf => ?_) (fun hc3 hf => ?_)
  · refine Runs.ifY (pc' := 17) d3_6 (teq hc3).1 (by decide) <| ?_
    obtain rfl := Option.some.inj hf
    exact Runs.iconst d3_17 ci_m1 <| Runs.retI d3_18 rfl ⟨by decide, by decide⟩ ⟨rfl, rfl⟩
  · refine Runs.ifN d3_6 (feq hc3).1 <| ?_
    refine Runs.aloadN d3_9 rfl <| Runs.iloadN d3_10 rfl <| ?_
    refine bind_el hf fun r4 hg5 hf => ?_
    refine Runs.callP (N := B6) (W := 0) (as := [.int i3]) (S' := []) d3_11 w51 w52 w53 rfl cw6 ar6 rk3_6_0 (by decide) rfl rfl (X_validProc_pay hg5) <| ans1 <| ?_
    refine ite_el hf (fun hc6 hf => ?_) (fun hc6 hf => ?_)
    · refine Runs.ifN d3_14 (teq hc6).2 <| ?_
      obtain rfl := Option.some.inj hf
      exact Runs.iconst d3_17 ci_m1 <| Runs.retI d3_18 rfl ⟨by decide, by decide⟩ ⟨rfl, rfl⟩
    · refine Runs.ifY (pc' := 19) d3_14 (feq hc6).2 (by decide) <| ?_
      refine Runs.aloadN d3_19 rfl <| Runs.iloadN d3_20 rfl <| Runs.iloadN d3_21 rfl <| Runs.iloadN d3_22 rfl <| ?_
      refine bind_el hf fun r7 hg8 hf => ?_
      refine Runs.callP (N := B13) (W := 0) (as := [.int i1, .int i2, .int i3]) (S' := []) d3_23 w81 w82 w83 rfl cw13 ar13 rk3_13_0 (by decide) rfl rfl (X_copyIndex_pay hg8) <| ans1 <| Runs.istore (P' := [vr a, vi i1, vi i2, vi i3, vi r7]) d3_26 (by decide) rfl <| Runs.aloadN d3_28 rfl <| Runs.getA d3_29 fA_5 w21 (by decide) <| Runs.iload d3_32 rfl <| ?_
      refine chk_el hf fun hi9 hf => ?_
      refine Runs.ialoadA d3_34 fA_5 (by decide) hi9 <| ?_
      refine ite_el hf (fun hc10 hf => ?_) (fun hc10 hf => ?_)
      · refine Runs.ifN d3_35 (teq hc10).2 <| ?_
        obtain rfl := Option.some.inj hf
        exact Runs.bipush d3_38 cb_m4 <| Runs.retI d3_40 rfl ⟨by decide, by decide⟩ ⟨rfl, rfl⟩
      · refine Runs.ifY (pc' := 41) d3_35 (feq hc10).2 (by decide) <| ?_
        refine Runs.aloadN d3_41 rfl <| Runs.getA d3_42 fA_5 w21 (by decide) <| Runs.iload d3_45 rfl <| Runs.aloadN d3_47 rfl <| Runs.getA d3_48 fA_5 w21 (by decide) <| Runs.iload d3_51 rfl <| ?_
        refine chk_el hf fun hi11 hf => ?_
        refine Runs.ialoadA d3_53 fA_5 (by decide) hi11 <| Runs.iconst d3_54 ci_1 <| Runs.isub d3_55 <| ?_
        refine chk_el hf fun hi12 hf => ?_
        refine Runs.iastoreA d3_56 fA_5 (by decide) hi12 <| Runs.aloadN d3_57 rfl <| Runs.getA d3_58 fA_5 w21 (by decide) <| Runs.iload d3_61 rfl <| ?_
        refine chk_el hf fun hi13 hf => ?_
        obtain rfl := Option.some.inj hf
        exact Runs.ialoadA d3_63 fA_5 (by decide) hi13 <| Runs.retI d3_64 rfl ⟨by decide, by decide⟩ ⟨rfl, rfl⟩
theorem X_drop_pay {C : Ctx} {top : Nat} {a : Nat} {H : List (Nat × Nat × Rec)} {res : Int32 × Rec} {ob : Rec} {i1 : Int32} {i2 : Int32} {i3 : Int32} (hf : X_drop ob i1 i2 i3 = some res) : Pays C B3 [.ref a, .int i1, .int i2, .int i3] (top, (a, 9, ob) :: H) (Ans (some (.int res.1)) (top, (a, 9, res.2) :: H)) :=
  Pays.of pnK (Nat.le_of_ble_eq_true rfl) (P := [vr a, vi i1, vi i2, vi i3, vn]) 1 rfl (X_drop_p ob i1 i2 i3 hf)
def X_broadcast_w125 (NF : Nat) (k125 : Rec → Int32 → Int32 → Int32 → Int32 → Option (Int32 × Rec)) (ob : Rec) (i1 : Int32) (i2 : Int32) (i3 : Int32) (i4 : Int32) : Option (Int32 × Rec) :=
  if i4 < (gI ob 0) then
    if i4 = i1 then
      chk (512 : Int32) ((i3 * (8 : Int32)) + i4) <|
      k125 (sA ob 5 ((i3 * (8 : Int32)) + i4) (0 : Int32)) i1 i2 i3 (i4 + (1 : Int32))
    else
      chk (512 : Int32) ((i3 * (8 : Int32)) + i4) <|
      k125 (sA ob 5 ((i3 * (8 : Int32)) + i4) (1 : Int32)) i1 i2 i3 (i4 + (1 : Int32))
  else
    some (i2, ob)
def X_broadcast_l125 (NF : Nat) : Nat → Rec → Int32 → Int32 → Int32 → Int32 → Option (Int32 × Rec)
  | 0, _, _, _, _, _ => none
  | n + 1, ob, i1, i2, i3, i4 => X_broadcast_w125 NF (X_broadcast_l125 NF n) ob i1 i2 i3 i4
set_option maxRecDepth 65536 in
set_option maxHeartbeats 4000000 in
theorem X_broadcast_w125_p {C : Ctx} {top : Nat} {a : Nat} {H : List (Nat × Nat × Rec)} {res : Int32 × Rec} {NF : Nat} (k125 : Rec → Int32 → Int32 → Int32 → Int32 → Option (Int32 × Rec)) (hk125 : ∀ (ob : Rec) (i1 : Int32) (i2 : Int32) (i3 : Int32) (i4 : Int32), k125 ob i1 i2 i3 i4 = some res → Runs C B5 0 0 125 [vr a, vi i1, vi i2, vi i3, vi i4] [] (top, (a, 9, ob) :: H) (Ans (some (.int res.1)) (top, (a, 9, res.2) :: H))) (ob : Rec) (i1 : Int32) (i2 : Int32) (i3 : Int32) (i4 : Int32) (hf : X_broadcast_w125 NF k125 ob i1 i2 i3 i4 = some res) : Runs C B5 0 0 125 [vr a, vi i1, vi i2, vi i3, vi i4] [] (top, (a, 9, ob) :: H) (Ans (some (.int res.1)) (top, (a, 9, res.2) :: H)) := by
  delta X_broadcast_w125 at hf
  refine Runs.iload d5_125 rfl <| Runs.aloadN d5_127 rfl <| Runs.getI d5_128 w29 fS_0 <| ?_
  refine ite_el hf (fun hc7 hf => ?_) (fun hc7 hf => ?_)
  · refine Runs.icN d5_131 (tlt hc7).2.1 <| ?_
    refine Runs.aloadN d5_134 rfl <| Runs.getA d5_135 fA_5 w21 (by decide) <| Runs.iloadN d5_138 rfl <| Runs.bipush d5_139 cb_8 <| Runs.imul d5_141 <| Runs.iload d5_142 rfl <| Runs.iadd d5_144 <| Runs.iload d5_145 rfl <| Runs.iloadN d5_147 rfl <| ?_
    refine ite_el hf (fun hc8 hf => ?_) (fun hc8 hf => ?_)
    · refine Runs.icN d5_148 (teq hc8).2 <| ?_
      refine Runs.iconst d5_151 ci_0 <| Runs.goto (pc' := 156) d5_152 (by decide) <| ?_
      refine chk_el hf fun hi9 hf => ?_
      exact Runs.iastoreA d5_156 fA_5 (by decide) hi9 <| Runs.iinc (P' := [vr a, vi i1, vi i2, vi i3, vi (i4 + (1 : Int32))]) d5_157 ci_1 rfl (by decide) rfl <| Runs.goto (pc' := 125) d5_160 (by decide) <| hk125 (sA ob 5 ((i3 * (8 : Int32)) + i4) (0 : Int32)) i1 i2 i3 (i4 + (1 : Int32)) hf
    · refine Runs.icY (pc' := 155) d5_148 (feq hc8).2 (by decide) <| ?_
      refine Runs.iconst d5_155 ci_1 <| ?_
      refine chk_el hf fun hi10 hf => ?_
      exact Runs.iastoreA d5_156 fA_5 (by decide) hi10 <| Runs.iinc (P' := [vr a, vi i1, vi i2, vi i3, vi (i4 + (1 : Int32))]) d5_157 ci_1 rfl (by decide) rfl <| Runs.goto (pc' := 125) d5_160 (by decide) <| hk125 (sA ob 5 ((i3 * (8 : Int32)) + i4) (1 : Int32)) i1 i2 i3 (i4 + (1 : Int32)) hf
  · refine Runs.icY (pc' := 163) d5_131 (flt hc7).2.1 (by decide) <| ?_
    obtain rfl := Option.some.inj hf
    exact Runs.iloadN d5_163 rfl <| Runs.retI d5_164 rfl ⟨by decide, by decide⟩ ⟨rfl, rfl⟩
theorem X_broadcast_l125_p {C : Ctx} {top : Nat} {a : Nat} {H : List (Nat × Nat × Rec)} {res : Int32 × Rec} {NF : Nat} (n : Nat) (ob : Rec) (i1 : Int32) (i2 : Int32) (i3 : Int32) (i4 : Int32) (hf : X_broadcast_l125 NF n ob i1 i2 i3 i4 = some res) : Runs C B5 0 0 125 [vr a, vi i1, vi i2, vi i3, vi i4] [] (top, (a, 9, ob) :: H) (Ans (some (.int res.1)) (top, (a, 9, res.2) :: H)) := by
  induction n generalizing ob i1 i2 i3 i4 with
  | zero => cases (show (none : Option (Int32 × Rec)) = some res from hf)
  | succ n ih => exact X_broadcast_w125_p (X_broadcast_l125 NF n) (fun ob i1 i2 i3 i4 h => ih _ _ _ _ _ h) ob i1 i2 i3 i4 hf
def X_broadcast_w64 (NF : Nat) (k64 : Rec → Int32 → Int32 → Int32 → Int32 → Option (Int32 × Rec)) (ob : Rec) (i1 : Int32) (i2 : Int32) (i3 : Int32) (i4 : Int32) : Option (Int32 × Rec) :=
  if i4 < (gI ob 0) then
    chk (64 : Int32) ((i1 * (8 : Int32)) + i4) <|
    chk (512 : Int32) ((i3 * (8 : Int32)) + i4) <|
    k64 (sA ob 4 ((i3 * (8 : Int32)) + i4) (gA ob 2 ((i1 * (8 : Int32)) + i4))) i1 i2 i3 (i4 + (1 : Int32))
  else
    chk (512 : Int32) ((i3 * (8 : Int32)) + i1) <|
    (X_deliverAt (sA ob 4 ((i3 * (8 : Int32)) + i1) i2) i1 i1 i2).bind fun q5 =>
    X_broadcast_l125 NF NF q5 i1 i2 i3 (0 : Int32)
def X_broadcast_l64 (NF : Nat) : Nat → Rec → Int32 → Int32 → Int32 → Int32 → Option (Int32 × Rec)
  | 0, _, _, _, _, _ => none
  | n + 1, ob, i1, i2, i3, i4 => X_broadcast_w64 NF (X_broadcast_l64 NF n) ob i1 i2 i3 i4
set_option maxRecDepth 65536 in
set_option maxHeartbeats 4000000 in
theorem X_broadcast_w64_p {C : Ctx} {top : Nat} {a : Nat} {H : List (Nat × Nat × Rec)} {res : Int32 × Rec} {NF : Nat} (k64 : Rec → Int32 → Int32 → Int32 → Int32 → Option (Int32 × Rec)) (hk64 : ∀ (ob : Rec) (i1 : Int32) (i2 : Int32) (i3 : Int32) (i4 : Int32), k64 ob i1 i2 i3 i4 = some res → Runs C B5 0 0 64 [vr a, vi i1, vi i2, vi i3, vi i4] [] (top, (a, 9, ob) :: H) (Ans (some (.int res.1)) (top, (a, 9, res.2) :: H))) (ob : Rec) (i1 : Int32) (i2 : Int32) (i3 : Int32) (i4 : Int32) (hf : X_broadcast_w64 NF k64 ob i1 i2 i3 i4 = some res) : Runs C B5 0 0 64 [vr a, vi i1, vi i2, vi i3, vi i4] [] (top, (a, 9, ob) :: H) (Ans (some (.int res.1)) (top, (a, 9, res.2) :: H)) := by
  delta X_broadcast_w64 at hf
  refine Runs.iload d5_64 rfl <| Runs.aloadN d5_66 rfl <| Runs.getI d5_67 w29 fS_0 <| ?_
  refine ite_el hf (fun hc1 hf => ?_) (fun hc1 hf => ?_)
  · refine Runs.icN d5_70 (tlt hc1).2.1 <| ?_
    refine Runs.aloadN d5_73 rfl <| Runs.getA d5_74 fA_4 w19 (by decide) <| Runs.iloadN d5_77 rfl <| Runs.bipush d5_78 cb_8 <| Runs.imul d5_80 <| Runs.iload d5_81 rfl <| Runs.iadd d5_83 <| Runs.aloadN d5_84 rfl <| Runs.getA d5_85 fA_2 w15 (by decide) <| Runs.iloadN d5_88 rfl <| Runs.bipush d5_89 cb_8 <| Runs.imul d5_91 <| ?_
    refine Runs.iload d5_92 rfl <| Runs.iadd d5_94 <| ?_
    refine chk_el hf fun hi2 hf => ?_
    refine Runs.ialoadA d5_95 fA_2 (by decide) hi2 <| ?_
    refine chk_el hf fun hi3 hf => ?_
    exact Runs.iastoreA d5_96 fA_4 (by decide) hi3 <| Runs.iinc (P' := [vr a, vi i1, vi i2, vi i3, vi (i4 + (1 : Int32))]) d5_97 ci_1 rfl (by decide) rfl <| Runs.goto (pc' := 64) d5_100 (by decide) <| hk64 (sA ob 4 ((i3 * (8 : Int32)) + i4) (gA ob 2 ((i1 * (8 : Int32)) + i4))) i1 i2 i3 (i4 + (1 : Int32)) hf
  · refine Runs.icY (pc' := 103) d5_70 (flt hc1).2.1 (by decide) <| ?_
    refine Runs.aloadN d5_103 rfl <| Runs.getA d5_104 fA_4 w19 (by decide) <| Runs.iloadN d5_107 rfl <| Runs.bipush d5_108 cb_8 <| Runs.imul d5_110 <| Runs.iloadN d5_111 rfl <| Runs.iadd d5_112 <| Runs.iloadN d5_113 rfl <| ?_
    refine chk_el hf fun hi4 hf => ?_
    refine Runs.iastoreA d5_114 fA_4 (by decide) hi4 <| Runs.aloadN d5_115 rfl <| Runs.iloadN d5_116 rfl <| Runs.iloadN d5_117 rfl <| Runs.iloadN d5_118 rfl <| ?_
    refine bind_el hf fun q5 hg6 hf => ?_
    exact Runs.callP (N := B8) (W := 0) (as := [.int i1, .int i1, .int i2]) (S' := []) d5_119 w59 w60 w61 rfl cw8 ar8 rk5_8_0 (by decide) rfl rfl (X_deliverAt_pay hg6) <| ans0 <| Runs.iconst d5_122 ci_0 <| Runs.istore (P' := [vr a, vi i1, vi i2, vi i3, vi (0 : Int32)]) d5_123 (by decide) rfl <| X_broadcast_l125_p NF q5 i1 i2 i3 (0 : Int32) hf
theorem X_broadcast_l64_p {C : Ctx} {top : Nat} {a : Nat} {H : List (Nat × Nat × Rec)} {res : Int32 × Rec} {NF : Nat} (n : Nat) (ob : Rec) (i1 : Int32) (i2 : Int32) (i3 : Int32) (i4 : Int32) (hf : X_broadcast_l64 NF n ob i1 i2 i3 i4 = some res) : Runs C B5 0 0 64 [vr a, vi i1, vi i2, vi i3, vi i4] [] (top, (a, 9, ob) :: H) (Ans (some (.int res.1)) (top, (a, 9, res.2) :: H)) := by
  induction n generalizing ob i1 i2 i3 i4 with
  | zero => cases (show (none : Option (Int32 × Rec)) = some res from hf)
  | succ n ih => exact X_broadcast_w64_p (X_broadcast_l64 NF n) (fun ob i1 i2 i3 i4 h => ih _ _ _ _ _ h) ob i1 i2 i3 i4 hf
def X_broadcast (NF : Nat) (ob : Rec) (i1 : Int32) : Option (Int32 × Rec) :=
  (X_validProc ob i1).bind fun r11 =>
  if r11 = (0 : Int32) then
    some ((-1 : Int32), ob)
  else
    chk (8 : Int32) i1 <|
    if (gA ob 1 i1) = (0 : Int32) then
      chk (8 : Int32) i1 <|
      if (gA ob 0 i1) < (gI ob 1) then
        chk (8 : Int32) i1 <|
        chk (8 : Int32) i1 <|
        (X_msgIndex (sA ob 0 i1 ((gA ob 0 i1) + (1 : Int32))) i1 ((gA ob 0 i1) + (1 : Int32))).bind fun r20 =>
        X_broadcast_l64 NF NF (sA ob 0 i1 ((gA ob 0 i1) + (1 : Int32))) i1 ((gA ob 0 i1) + (1 : Int32)) r20 (0 : Int32)
      else
        some ((-3 : Int32), ob)
    else
      some ((-2 : Int32), ob)
set_option maxRecDepth 65536 in
set_option maxHeartbeats 4000000 in
theorem X_broadcast_p {C : Ctx} {top : Nat} {a : Nat} {H : List (Nat × Nat × Rec)} {res : Int32 × Rec} {NF : Nat} (ob : Rec) (i1 : Int32) (hf : X_broadcast NF ob i1 = some res) : Runs C B5 0 0 0 [vr a, vi i1, vn, vn, vn] [] (top, (a, 9, ob) :: H) (Ans (some (.int res.1)) (top, (a, 9, res.2) :: H)) := by
  delta X_broadcast at hf
  refine Runs.aloadN d5_0 rfl <| Runs.iloadN d5_1 rfl <| ?_
  refine bind_el hf fun r11 hg12 hf => ?_
  refine Runs.callP (N := B6) (W := 0) (as := [.int i1]) (S' := []) d5_2 w51 w52 w53 rfl cw6 ar6 rk5_6_0 (by decide) rfl rfl (X_validProc_pay hg12) <| ans1 <| ?_
  refine ite_el hf (fun hc13 hf => ?_) (fun hc13 hf => ?_)
  · refine Runs.ifN d5_5 (teq hc13).2 <| ?_
    obtain rfl := Option.some.inj hf
    exact Runs.iconst d5_8 ci_m1 <| Runs.retI d5_9 rfl ⟨by decide, by decide⟩ ⟨rfl, rfl⟩
  · refine Runs.ifY (pc' := 10) d5_5 (feq hc13).2 (by decide) <| ?_
    refine Runs.aloadN d5_10 rfl <| Runs.getA d5_11 fA_1 w13 (by decide) <| Runs.iloadN d5_14 rfl <| ?_
    refine chk_el hf fun hi14 hf => ?_
    refine Runs.baloadA d5_15 fA_1 (by decide) hi14 <| ?_
    refine ite_el hf (fun hc15 hf => ?_) (fun hc15 hf => ?_)
    · refine Runs.ifY (pc' := 22) d5_16 (teq hc15).1 (by decide) <| ?_
      refine Runs.aloadN d5_22 rfl <| Runs.getA d5_23 fA_0 w10 (by decide) <| Runs.iloadN d5_26 rfl <| ?_
      refine chk_el hf fun hi16 hf => ?_
      refine Runs.ialoadA d5_27 fA_0 (by decide) hi16 <| Runs.aloadN d5_28 rfl <| Runs.getI d5_29 w31 fS_1 <| ?_
      refine ite_el hf (fun hc17 hf => ?_) (fun hc17 hf => ?_)
      · refine Runs.icY (pc' := 38) d5_32 (tlt hc17).1 (by decide) <| ?_
        refine Runs.aloadN d5_38 rfl <| Runs.getA d5_39 fA_0 w10 (by decide) <| Runs.iloadN d5_42 rfl <| ?_
        refine chk_el hf fun hi18 hf => ?_
        refine Runs.ialoadA d5_43 fA_0 (by decide) hi18 <| Runs.iconst d5_44 ci_1 <| Runs.iadd d5_45 <| Runs.istoreN (P' := [vr a, vi i1, vi ((gA ob 0 i1) + (1 : Int32)), vn, vn]) d5_46 (by decide) rfl <| Runs.aloadN d5_47 rfl <| Runs.getA d5_48 fA_0 w10 (by decide) <| Runs.iloadN d5_51 rfl <| Runs.iloadN d5_52 rfl <| ?_
        refine chk_el hf fun hi19 hf => ?_
        refine Runs.iastoreA d5_53 fA_0 (by decide) hi19 <| Runs.aloadN d5_54 rfl <| Runs.iloadN d5_55 rfl <| Runs.iloadN d5_56 rfl <| ?_
        refine bind_el hf fun r20 hg21 hf => ?_
        exact Runs.callP (N := B7) (W := 0) (as := [.int i1, .int ((gA ob 0 i1) + (1 : Int32))]) (S' := []) d5_57 w55 w56 w57 rfl cw7 ar7 rk5_7_0 (by decide) rfl rfl (X_msgIndex_pay hg21) <| ans1 <| Runs.istoreN (P' := [vr a, vi i1, vi ((gA ob 0 i1) + (1 : Int32)), vi r20, vn]) d5_60 (by decide) rfl <| Runs.iconst d5_61 ci_0 <| Runs.istore (P' := [vr a, vi i1, vi ((gA ob 0 i1) + (1 : Int32)), vi r20, vi (0 : Int32)]) d5_62 (by decide) rfl <| X_broadcast_l64_p NF (sA ob 0 i1 ((gA ob 0 i1) + (1 : Int32))) i1 ((gA ob 0 i1) + (1 : Int32)) r20 (0 : Int32) hf
      · refine Runs.icN d5_32 (flt hc17).1 <| ?_
        obtain rfl := Option.some.inj hf
        exact Runs.bipush d5_35 cb_m3 <| Runs.retI d5_37 rfl ⟨by decide, by decide⟩ ⟨rfl, rfl⟩
    · refine Runs.ifN d5_16 (feq hc15).1 <| ?_
      obtain rfl := Option.some.inj hf
      exact Runs.bipush d5_19 cb_m2 <| Runs.retI d5_21 rfl ⟨by decide, by decide⟩ ⟨rfl, rfl⟩
theorem X_broadcast_pay {C : Ctx} {top : Nat} {a : Nat} {H : List (Nat × Nat × Rec)} {res : Int32 × Rec} {NF : Nat} {ob : Rec} {i1 : Int32} (hf : X_broadcast NF ob i1 = some res) : Pays C B5 [.ref a, .int i1] (top, (a, 9, ob) :: H) (Ans (some (.int res.1)) (top, (a, 9, res.2) :: H)) :=
  Pays.of pnK (Nat.le_of_ble_eq_true rfl) (P := [vr a, vi i1, vn, vn, vn]) 3 rfl (X_broadcast_p ob i1 hf)
def X_duplicate (ob : Rec) (i1 : Int32) (i2 : Int32) (i3 : Int32) : Option (Int32 × Rec) :=
  (X_exists ob i1 i2).bind fun r1 =>
  if r1 = (0 : Int32) then
    some ((-1 : Int32), ob)
  else
    (X_validProc ob i3).bind fun r4 =>
    if r4 = (0 : Int32) then
      some ((-1 : Int32), ob)
    else
      (X_copyIndex ob i1 i2 i3).bind fun r7 =>
      chk (512 : Int32) r7 <|
      if (gA ob 5 r7) = (0 : Int32) then
        some ((-4 : Int32), ob)
      else
        chk (512 : Int32) r7 <|
        if (gA ob 5 r7) < (3 : Int32) then
          chk (512 : Int32) r7 <|
          chk (512 : Int32) r7 <|
          chk (512 : Int32) r7 <|
          some ((gA (sA ob 5 r7 ((gA ob 5 r7) + (1 : Int32))) 5 r7), (sA ob 5 r7 ((gA ob 5 r7) + (1 : Int32))))
        else
          some ((-3 : Int32), ob)
set_option maxRecDepth 65536 in
set_option maxHeartbeats 4000000 in
theorem X_duplicate_p {C : Ctx} {top : Nat} {a : Nat} {H : List (Nat × Nat × Rec)} {res : Int32 × Rec} (ob : Rec) (i1 : Int32) (i2 : Int32) (i3 : Int32) (hf : X_duplicate ob i1 i2 i3 = some res) : Runs C B11 0 0 0 [vr a, vi i1, vi i2, vi i3, vn] [] (top, (a, 9, ob) :: H) (Ans (some (.int res.1)) (top, (a, 9, res.2) :: H)) := by
  delta X_duplicate at hf
  refine Runs.aloadN d11_0 rfl <| Runs.iloadN d11_1 rfl <| Runs.iloadN d11_2 rfl <| ?_
  refine bind_el hf fun r1 hg2 hf => ?_
  refine Runs.callP (N := B4) (W := 0) (as := [.int i1, .int i2]) (S' := []) d11_3 w42 w43 w44 rfl cw4 ar4 rk11_4_0 (by decide) rfl rfl (X_exists_pay hg2) <| ans1 <| ?_
  refine ite_el hf (fun hc3 hf => ?_) (fun hc3 hf => ?_)
  · refine Runs.ifY (pc' := 17) d11_6 (teq hc3).1 (by decide) <| ?_
    obtain rfl := Option.some.inj hf
    exact Runs.iconst d11_17 ci_m1 <| Runs.retI d11_18 rfl ⟨by decide, by decide⟩ ⟨rfl, rfl⟩
  · refine Runs.ifN d11_6 (feq hc3).1 <| ?_
    refine Runs.aloadN d11_9 rfl <| Runs.iloadN d11_10 rfl <| ?_
    refine bind_el hf fun r4 hg5 hf => ?_
    refine Runs.callP (N := B6) (W := 0) (as := [.int i3]) (S' := []) d11_11 w51 w52 w53 rfl cw6 ar6 rk11_6_0 (by decide) rfl rfl (X_validProc_pay hg5) <| ans1 <| ?_
    refine ite_el hf (fun hc6 hf => ?_) (fun hc6 hf => ?_)
    · refine Runs.ifN d11_14 (teq hc6).2 <| ?_
      obtain rfl := Option.some.inj hf
      exact Runs.iconst d11_17 ci_m1 <| Runs.retI d11_18 rfl ⟨by decide, by decide⟩ ⟨rfl, rfl⟩
    · refine Runs.ifY (pc' := 19) d11_14 (feq hc6).2 (by decide) <| ?_
      refine Runs.aloadN d11_19 rfl <| Runs.iloadN d11_20 rfl <| Runs.iloadN d11_21 rfl <| Runs.iloadN d11_22 rfl <| ?_
      refine bind_el hf fun r7 hg8 hf => ?_
      refine Runs.callP (N := B13) (W := 0) (as := [.int i1, .int i2, .int i3]) (S' := []) d11_23 w81 w82 w83 rfl cw13 ar13 rk11_13_0 (by decide) rfl rfl (X_copyIndex_pay hg8) <| ans1 <| Runs.istore (P' := [vr a, vi i1, vi i2, vi i3, vi r7]) d11_26 (by decide) rfl <| Runs.aloadN d11_28 rfl <| Runs.getA d11_29 fA_5 w21 (by decide) <| Runs.iload d11_32 rfl <| ?_
      refine chk_el hf fun hi9 hf => ?_
      refine Runs.ialoadA d11_34 fA_5 (by decide) hi9 <| ?_
      refine ite_el hf (fun hc10 hf => ?_) (fun hc10 hf => ?_)
      · refine Runs.ifN d11_35 (teq hc10).2 <| ?_
        obtain rfl := Option.some.inj hf
        exact Runs.bipush d11_38 cb_m4 <| Runs.retI d11_40 rfl ⟨by decide, by decide⟩ ⟨rfl, rfl⟩
      · refine Runs.ifY (pc' := 41) d11_35 (feq hc10).2 (by decide) <| ?_
        refine Runs.aloadN d11_41 rfl <| Runs.getA d11_42 fA_5 w21 (by decide) <| Runs.iload d11_45 rfl <| ?_
        refine chk_el hf fun hi11 hf => ?_
        refine Runs.ialoadA d11_47 fA_5 (by decide) hi11 <| Runs.iconst d11_48 ci_3 <| ?_
        refine ite_el hf (fun hc12 hf => ?_) (fun hc12 hf => ?_)
        · refine Runs.icY (pc' := 55) d11_49 (tlt hc12).1 (by decide) <| ?_
          refine Runs.aloadN d11_55 rfl <| Runs.getA d11_56 fA_5 w21 (by decide) <| Runs.iload d11_59 rfl <| Runs.aloadN d11_61 rfl <| Runs.getA d11_62 fA_5 w21 (by decide) <| Runs.iload d11_65 rfl <| ?_
          refine chk_el hf fun hi13 hf => ?_
          refine Runs.ialoadA d11_67 fA_5 (by decide) hi13 <| Runs.iconst d11_68 ci_1 <| Runs.iadd d11_69 <| ?_
          refine chk_el hf fun hi14 hf => ?_
          refine Runs.iastoreA d11_70 fA_5 (by decide) hi14 <| Runs.aloadN d11_71 rfl <| Runs.getA d11_72 fA_5 w21 (by decide) <| Runs.iload d11_75 rfl <| ?_
          refine chk_el hf fun hi15 hf => ?_
          obtain rfl := Option.some.inj hf
          exact Runs.ialoadA d11_77 fA_5 (by decide) hi15 <| Runs.retI d11_78 rfl ⟨by decide, by decide⟩ ⟨rfl, rfl⟩
        · refine Runs.icN d11_49 (flt hc12).1 <| ?_
          obtain rfl := Option.some.inj hf
          exact Runs.bipush d11_52 cb_m3 <| Runs.retI d11_54 rfl ⟨by decide, by decide⟩ ⟨rfl, rfl⟩
theorem X_duplicate_pay {C : Ctx} {top : Nat} {a : Nat} {H : List (Nat × Nat × Rec)} {res : Int32 × Rec} {ob : Rec} {i1 : Int32} {i2 : Int32} {i3 : Int32} (hf : X_duplicate ob i1 i2 i3 = some res) : Pays C B11 [.ref a, .int i1, .int i2, .int i3] (top, (a, 9, ob) :: H) (Ans (some (.int res.1)) (top, (a, 9, res.2) :: H)) :=
  Pays.of pnK (Nat.le_of_ble_eq_true rfl) (P := [vr a, vi i1, vi i2, vi i3, vn]) 1 rfl (X_duplicate_p ob i1 i2 i3 hf)
def X_retransmit (ob : Rec) (i1 : Int32) (i2 : Int32) (i3 : Int32) (i4 : Int32) : Option (Int32 × Rec) :=
  (X_validProc ob i1).bind fun r1 =>
  if r1 = (0 : Int32) then
    some ((-1 : Int32), ob)
  else
    (X_validProc ob i2).bind fun r4 =>
    if r4 = (0 : Int32) then
      some ((-1 : Int32), ob)
    else
      if i1 = i2 then
        some ((-1 : Int32), ob)
      else
        (X_exists ob i3 i4).bind fun r8 =>
        if r8 = (0 : Int32) then
          some ((-1 : Int32), ob)
        else
          chk (8 : Int32) i1 <|
          if (gA ob 1 i1) = (0 : Int32) then
            chk (8 : Int32) i2 <|
            if (gA ob 1 i2) = (0 : Int32) then
              (X_stateIndex ob i1 i3 i4).bind fun r15 =>
              chk (512 : Int32) r15 <|
              if (gA ob 3 r15) = (2 : Int32) then
                (X_copyIndex ob i3 i4 i2).bind fun r19 =>
                chk (512 : Int32) r19 <|
                if (gA ob 5 r19) < (3 : Int32) then
                  chk (512 : Int32) r19 <|
                  chk (512 : Int32) r19 <|
                  some ((0 : Int32), (sA ob 5 r19 ((gA ob 5 r19) + (1 : Int32))))
                else
                  some ((-3 : Int32), ob)
              else
                some ((-6 : Int32), ob)
            else
              some ((-2 : Int32), ob)
          else
            some ((-2 : Int32), ob)
set_option maxRecDepth 65536 in
set_option maxHeartbeats 4000000 in
theorem X_retransmit_p {C : Ctx} {top : Nat} {a : Nat} {H : List (Nat × Nat × Rec)} {res : Int32 × Rec} (ob : Rec) (i1 : Int32) (i2 : Int32) (i3 : Int32) (i4 : Int32) (hf : X_retransmit ob i1 i2 i3 i4 = some res) : Runs C B26 0 0 0 [vr a, vi i1, vi i2, vi i3, vi i4, vn, vn] [] (top, (a, 9, ob) :: H) (Ans (some (.int res.1)) (top, (a, 9, res.2) :: H)) := by
  delta X_retransmit at hf
  refine Runs.aloadN d26_0 rfl <| Runs.iloadN d26_1 rfl <| ?_
  refine bind_el hf fun r1 hg2 hf => ?_
  refine Runs.callP (N := B6) (W := 0) (as := [.int i1]) (S' := []) d26_2 w51 w52 w53 rfl cw6 ar6 rk26_6_0 (by decide) rfl rfl (X_validProc_pay hg2) <| ans1 <| ?_
  refine ite_el hf (fun hc3 hf => ?_) (fun hc3 hf => ?_)
  · refine Runs.ifY (pc' := 31) d26_5 (teq hc3).1 (by decide) <| ?_
    obtain rfl := Option.some.inj hf
    exact Runs.iconst d26_31 ci_m1 <| Runs.retI d26_32 rfl ⟨by decide, by decide⟩ ⟨rfl, rfl⟩
  · refine Runs.ifN d26_5 (feq hc3).1 <| ?_
    refine Runs.aloadN d26_8 rfl <| Runs.iloadN d26_9 rfl <| ?_
    refine bind_el hf fun r4 hg5 hf => ?_
    refine Runs.callP (N := B6) (W := 0) (as := [.int i2]) (S' := []) d26_10 w51 w52 w53 rfl cw6 ar6 rk26_6_0 (by decide) rfl rfl (X_validProc_pay hg5) <| ans1 <| ?_
    refine ite_el hf (fun hc6 hf => ?_) (fun hc6 hf => ?_)
    · refine Runs.ifY (pc' := 31) d26_13 (teq hc6).1 (by decide) <| ?_
      obtain rfl := Option.some.inj hf
      exact Runs.iconst d26_31 ci_m1 <| Runs.retI d26_32 rfl ⟨by decide, by decide⟩ ⟨rfl, rfl⟩
    · refine Runs.ifN d26_13 (feq hc6).1 <| ?_
      refine Runs.iloadN d26_16 rfl <| Runs.iloadN d26_17 rfl <| ?_
      refine ite_el hf (fun hc7 hf => ?_) (fun hc7 hf => ?_)
      · refine Runs.icY (pc' := 31) d26_18 (teq hc7).1 (by decide) <| ?_
        obtain rfl := Option.some.inj hf
        exact Runs.iconst d26_31 ci_m1 <| Runs.retI d26_32 rfl ⟨by decide, by decide⟩ ⟨rfl, rfl⟩
      · refine Runs.icN d26_18 (feq hc7).1 <| ?_
        refine Runs.aloadN d26_21 rfl <| Runs.iloadN d26_22 rfl <| Runs.iload d26_23 rfl <| ?_
        refine bind_el hf fun r8 hg9 hf => ?_
        refine Runs.callP (N := B4) (W := 0) (as := [.int i3, .int i4]) (S' := []) d26_25 w42 w43 w44 rfl cw4 ar4 rk26_4_0 (by decide) rfl rfl (X_exists_pay hg9) <| ans1 <| ?_
        refine ite_el hf (fun hc10 hf => ?_) (fun hc10 hf => ?_)
        · refine Runs.ifN d26_28 (teq hc10).2 <| ?_
          obtain rfl := Option.some.inj hf
          exact Runs.iconst d26_31 ci_m1 <| Runs.retI d26_32 rfl ⟨by decide, by decide⟩ ⟨rfl, rfl⟩
        · refine Runs.ifY (pc' := 33) d26_28 (feq hc10).2 (by decide) <| ?_
          refine Runs.aloadN d26_33 rfl <| Runs.getA d26_34 fA_1 w13 (by decide) <| Runs.iloadN d26_37 rfl <| ?_
          refine chk_el hf fun hi11 hf => ?_
          refine Runs.baloadA d26_38 fA_1 (by decide) hi11 <| ?_
          refine ite_el hf (fun hc12 hf => ?_) (fun hc12 hf => ?_)
          · refine Runs.ifN d26_39 (teq hc12).2 <| ?_
            refine Runs.aloadN d26_42 rfl <| Runs.getA d26_43 fA_1 w13 (by decide) <| Runs.iloadN d26_46 rfl <| ?_
            refine chk_el hf fun hi13 hf => ?_
            refine Runs.baloadA d26_47 fA_1 (by decide) hi13 <| ?_
            refine ite_el hf (fun hc14 hf => ?_) (fun hc14 hf => ?_)
            · refine Runs.ifY (pc' := 54) d26_48 (teq hc14).1 (by decide) <| ?_
              refine Runs.aloadN d26_54 rfl <| Runs.iloadN d26_55 rfl <| Runs.iloadN d26_56 rfl <| Runs.iload d26_57 rfl <| ?_
              refine bind_el hf fun r15 hg16 hf => ?_
              refine Runs.callP (N := B9) (W := 0) (as := [.int i1, .int i3, .int i4]) (S' := []) d26_59 w63 w64 w65 rfl cw9 ar9 rk26_9_0 (by decide) rfl rfl (X_stateIndex_pay hg16) <| ans1 <| Runs.istore (P' := [vr a, vi i1, vi i2, vi i3, vi i4, vi r15, vn]) d26_62 (by decide) rfl <| Runs.aloadN d26_64 rfl <| Runs.getA d26_65 fA_3 w17 (by decide) <| Runs.iload d26_68 rfl <| ?_
              refine chk_el hf fun hi17 hf => ?_
              refine Runs.ialoadA d26_70 fA_3 (by decide) hi17 <| Runs.iconst d26_71 ci_2 <| ?_
              refine ite_el hf (fun hc18 hf => ?_) (fun hc18 hf => ?_)
              · refine Runs.icY (pc' := 78) d26_72 (teq hc18).1 (by decide) <| ?_
                refine Runs.aloadN d26_78 rfl <| Runs.iloadN d26_79 rfl <| Runs.iload d26_80 rfl <| Runs.iloadN d26_82 rfl <| ?_
                refine bind_el hf fun r19 hg20 hf => ?_
                refine Runs.callP (N := B13) (W := 0) (as := [.int i3, .int i4, .int i2]) (S' := []) d26_83 w81 w82 w83 rfl cw13 ar13 rk26_13_0 (by decide) rfl rfl (X_copyIndex_pay hg20) <| ans1 <| Runs.istore (P' := [vr a, vi i1, vi i2, vi i3, vi i4, vi r15, vi r19]) d26_86 (by decide) rfl <| Runs.aloadN d26_88 rfl <| Runs.getA d26_89 fA_5 w21 (by decide) <| Runs.iload d26_92 rfl <| ?_
                refine chk_el hf fun hi21 hf => ?_
                refine Runs.ialoadA d26_94 fA_5 (by decide) hi21 <| Runs.iconst d26_95 ci_3 <| ?_
                refine ite_el hf (fun hc22 hf => ?_) (fun hc22 hf => ?_)
                · refine Runs.icY (pc' := 102) d26_96 (tlt hc22).1 (by decide) <| ?_
                  refine Runs.aloadN d26_102 rfl <| Runs.getA d26_103 fA_5 w21 (by decide) <| Runs.iload d26_106 rfl <| Runs.aloadN d26_108 rfl <| Runs.getA d26_109 fA_5 w21 (by decide) <| Runs.iload d26_112 rfl <| ?_
                  refine chk_el hf fun hi23 hf => ?_
                  refine Runs.ialoadA d26_114 fA_5 (by decide) hi23 <| Runs.iconst d26_115 ci_1 <| Runs.iadd d26_116 <| ?_
                  refine chk_el hf fun hi24 hf => ?_
                  obtain rfl := Option.some.inj hf
                  exact Runs.iastoreA d26_117 fA_5 (by decide) hi24 <| Runs.iconst d26_118 ci_0 <| Runs.retI d26_119 rfl ⟨by decide, by decide⟩ ⟨rfl, rfl⟩
                · refine Runs.icN d26_96 (flt hc22).1 <| ?_
                  obtain rfl := Option.some.inj hf
                  exact Runs.bipush d26_99 cb_m3 <| Runs.retI d26_101 rfl ⟨by decide, by decide⟩ ⟨rfl, rfl⟩
              · refine Runs.icN d26_72 (feq hc18).1 <| ?_
                obtain rfl := Option.some.inj hf
                exact Runs.bipush d26_75 cb_m6 <| Runs.retI d26_77 rfl ⟨by decide, by decide⟩ ⟨rfl, rfl⟩
            · refine Runs.ifN d26_48 (feq hc14).1 <| ?_
              obtain rfl := Option.some.inj hf
              exact Runs.bipush d26_51 cb_m2 <| Runs.retI d26_53 rfl ⟨by decide, by decide⟩ ⟨rfl, rfl⟩
          · refine Runs.ifY (pc' := 51) d26_39 (feq hc12).2 (by decide) <| ?_
            obtain rfl := Option.some.inj hf
            exact Runs.bipush d26_51 cb_m2 <| Runs.retI d26_53 rfl ⟨by decide, by decide⟩ ⟨rfl, rfl⟩
theorem X_retransmit_pay {C : Ctx} {top : Nat} {a : Nat} {H : List (Nat × Nat × Rec)} {res : Int32 × Rec} {ob : Rec} {i1 : Int32} {i2 : Int32} {i3 : Int32} {i4 : Int32} (hf : X_retransmit ob i1 i2 i3 i4 = some res) : Pays C B26 [.ref a, .int i1, .int i2, .int i3, .int i4] (top, (a, 9, ob) :: H) (Ans (some (.int res.1)) (top, (a, 9, res.2) :: H)) :=
  Pays.of pnK (Nat.le_of_ble_eq_true rfl) (P := [vr a, vi i1, vi i2, vi i3, vi i4, vn, vn]) 2 rfl (X_retransmit_p ob i1 i2 i3 i4 hf)
def X_gossip_w57 (NF : Nat) (k46 : Rec → Int32 → Int32 → Int32 → Option (Int32 × Rec)) (k57 : Rec → Int32 → Int32 → Int32 → Int32 → Option (Int32 × Rec)) (ob : Rec) (i1 : Int32) (i2 : Int32) (i3 : Int32) (i4 : Int32) : Option (Int32 × Rec) :=
  if i4 < (gI ob 0) then
    chk (512 : Int32) (((i1 * (64 : Int32)) + (i3 * (8 : Int32))) + i4) <|
    chk (512 : Int32) (((i2 * (64 : Int32)) + (i3 * (8 : Int32))) + i4) <|
    if (gA ob 6 (((i2 * (64 : Int32)) + (i3 * (8 : Int32))) + i4)) < (gA ob 6 (((i1 * (64 : Int32)) + (i3 * (8 : Int32))) + i4)) then
      chk (512 : Int32) (((i1 * (64 : Int32)) + (i3 * (8 : Int32))) + i4) <|
      chk (512 : Int32) (((i2 * (64 : Int32)) + (i3 * (8 : Int32))) + i4) <|
      k57 (sA ob 6 (((i2 * (64 : Int32)) + (i3 * (8 : Int32))) + i4) (gA ob 6 (((i1 * (64 : Int32)) + (i3 * (8 : Int32))) + i4))) i1 i2 i3 (i4 + (1 : Int32))
    else
      k57 ob i1 i2 i3 (i4 + (1 : Int32))
  else
    k46 ob i1 i2 (i3 + (1 : Int32))
def X_gossip_l57 (NF : Nat) (k46 : Rec → Int32 → Int32 → Int32 → Option (Int32 × Rec)) : Nat → Rec → Int32 → Int32 → Int32 → Int32 → Option (Int32 × Rec)
  | 0, _, _, _, _, _ => none
  | n + 1, ob, i1, i2, i3, i4 => X_gossip_w57 NF k46 (X_gossip_l57 NF k46 n) ob i1 i2 i3 i4
set_option maxRecDepth 65536 in
set_option maxHeartbeats 4000000 in
theorem X_gossip_w57_p {C : Ctx} {top : Nat} {a : Nat} {H : List (Nat × Nat × Rec)} {res : Int32 × Rec} {NF : Nat} (k46 : Rec → Int32 → Int32 → Int32 → Option (Int32 × Rec)) (hk46 : ∀ (ob : Rec) (i1 : Int32) (i2 : Int32) (i3 : Int32), k46 ob i1 i2 i3 = some res → Runs C B28 0 0 46 [vr a, vi i1, vi i2, vi i3, vn, vn, vn] [] (top, (a, 9, ob) :: H) (Ans (some (.int res.1)) (top, (a, 9, res.2) :: H))) (k57 : Rec → Int32 → Int32 → Int32 → Int32 → Option (Int32 × Rec)) (hk57 : ∀ (ob : Rec) (i1 : Int32) (i2 : Int32) (i3 : Int32) (i4 : Int32), k57 ob i1 i2 i3 i4 = some res → Runs C B28 0 0 57 [vr a, vi i1, vi i2, vi i3, vi i4, vn, vn] [] (top, (a, 9, ob) :: H) (Ans (some (.int res.1)) (top, (a, 9, res.2) :: H))) (ob : Rec) (i1 : Int32) (i2 : Int32) (i3 : Int32) (i4 : Int32) (hf : X_gossip_w57 NF k46 k57 ob i1 i2 i3 i4 = some res) : Runs C B28 0 0 57 [vr a, vi i1, vi i2, vi i3, vi i4, vn, vn] [] (top, (a, 9, ob) :: H) (Ans (some (.int res.1)) (top, (a, 9, res.2) :: H)) := by
  delta X_gossip_w57 at hf
  refine Runs.iload d28_57 rfl <| Runs.aloadN d28_59 rfl <| Runs.getI d28_60 w29 fS_0 <| ?_
  refine ite_el hf (fun hc2 hf => ?_) (fun hc2 hf => ?_)
  · refine Runs.icN d28_63 (tlt hc2).2.1 <| ?_
    refine Runs.iloadN d28_66 rfl <| Runs.bipush d28_67 cb_64 <| Runs.imul d28_69 <| Runs.iloadN d28_70 rfl <| Runs.bipush d28_71 cb_8 <| Runs.imul d28_73 <| Runs.iadd d28_74 <| Runs.iload d28_75 rfl <| Runs.iadd d28_77 <| Runs.istore (P' := [vr a, vi i1, vi i2, vi i3, vi i4, vi (((i2 * (64 : Int32)) + (i3 * (8 : Int32))) + i4), vn]) d28_78 (by decide) rfl <| Runs.iloadN d28_80 rfl <| Runs.bipush d28_81 cb_64 <| ?_
    refine Runs.imul d28_83 <| Runs.iloadN d28_84 rfl <| Runs.bipush d28_85 cb_8 <| Runs.imul d28_87 <| Runs.iadd d28_88 <| Runs.iload d28_89 rfl <| Runs.iadd d28_91 <| Runs.istore (P' := [vr a, vi i1, vi i2, vi i3, vi i4, vi (((i2 * (64 : Int32)) + (i3 * (8 : Int32))) + i4), vi (((i1 * (64 : Int32)) + (i3 * (8 : Int32))) + i4)]) d28_92 (by decide) rfl <| Runs.aloadN d28_94 rfl <| Runs.getA d28_95 fA_6 w23 (by decide) <| Runs.iload d28_98 rfl <| ?_
    refine chk_el hf fun hi3 hf => ?_
    refine Runs.ialoadA d28_100 fA_6 (by decide) hi3 <| Runs.aloadN d28_101 rfl <| Runs.getA d28_102 fA_6 w23 (by decide) <| Runs.iload d28_105 rfl <| ?_
    refine chk_el hf fun hi4 hf => ?_
    refine Runs.ialoadA d28_107 fA_6 (by decide) hi4 <| ?_
    refine ite_el hf (fun hc5 hf => ?_) (fun hc5 hf => ?_)
    · refine Runs.icN d28_108 (tlt hc5).2.2.2 <| ?_
      refine Runs.aloadN d28_111 rfl <| Runs.getA d28_112 fA_6 w23 (by decide) <| Runs.iload d28_115 rfl <| Runs.aloadN d28_117 rfl <| Runs.getA d28_118 fA_6 w23 (by decide) <| Runs.iload d28_121 rfl <| ?_
      refine chk_el hf fun hi6 hf => ?_
      refine Runs.ialoadA d28_123 fA_6 (by decide) hi6 <| ?_
      refine chk_el hf fun hi7 hf => ?_
      exact Runs.iastoreA d28_124 fA_6 (by decide) hi7 <| Runs.iinc (P' := [vr a, vi i1, vi i2, vi i3, vi (i4 + (1 : Int32)), vi (((i2 * (64 : Int32)) + (i3 * (8 : Int32))) + i4), vi (((i1 * (64 : Int32)) + (i3 * (8 : Int32))) + i4)]) d28_125 ci_1 rfl (by decide) rfl <| Runs.goto (pc' := 57) d28_128 (by decide) <| Runs.forget [true, true, true, true, true, false, false] rfl <| hk57 (sA ob 6 (((i2 * (64 : Int32)) + (i3 * (8 : Int32))) + i4) (gA ob 6 (((i1 * (64 : Int32)) + (i3 * (8 : Int32))) + i4))) i1 i2 i3 (i4 + (1 : Int32)) hf
    · refine Runs.icY (pc' := 125) d28_108 (flt hc5).2.2.2 (by decide) <| ?_
      exact Runs.iinc (P' := [vr a, vi i1, vi i2, vi i3, vi (i4 + (1 : Int32)), vi (((i2 * (64 : Int32)) + (i3 * (8 : Int32))) + i4), vi (((i1 * (64 : Int32)) + (i3 * (8 : Int32))) + i4)]) d28_125 ci_1 rfl (by decide) rfl <| Runs.goto (pc' := 57) d28_128 (by decide) <| Runs.forget [true, true, true, true, true, false, false] rfl <| hk57 ob i1 i2 i3 (i4 + (1 : Int32)) hf
  · refine Runs.icY (pc' := 131) d28_63 (flt hc2).2.1 (by decide) <| ?_
    exact Runs.iinc (P' := [vr a, vi i1, vi i2, vi (i3 + (1 : Int32)), vi i4, vn, vn]) d28_131 ci_1 rfl (by decide) rfl <| Runs.goto (pc' := 46) d28_134 (by decide) <| Runs.forget [true, true, true, true, false, false, false] rfl <| hk46 ob i1 i2 (i3 + (1 : Int32)) hf
theorem X_gossip_l57_p {C : Ctx} {top : Nat} {a : Nat} {H : List (Nat × Nat × Rec)} {res : Int32 × Rec} {NF : Nat} (k46 : Rec → Int32 → Int32 → Int32 → Option (Int32 × Rec)) (hk46 : ∀ (ob : Rec) (i1 : Int32) (i2 : Int32) (i3 : Int32), k46 ob i1 i2 i3 = some res → Runs C B28 0 0 46 [vr a, vi i1, vi i2, vi i3, vn, vn, vn] [] (top, (a, 9, ob) :: H) (Ans (some (.int res.1)) (top, (a, 9, res.2) :: H))) (n : Nat) (ob : Rec) (i1 : Int32) (i2 : Int32) (i3 : Int32) (i4 : Int32) (hf : X_gossip_l57 NF k46 n ob i1 i2 i3 i4 = some res) : Runs C B28 0 0 57 [vr a, vi i1, vi i2, vi i3, vi i4, vn, vn] [] (top, (a, 9, ob) :: H) (Ans (some (.int res.1)) (top, (a, 9, res.2) :: H)) := by
  induction n generalizing ob i1 i2 i3 i4 with
  | zero => cases (show (none : Option (Int32 × Rec)) = some res from hf)
  | succ n ih => exact X_gossip_w57_p k46 hk46 (X_gossip_l57 NF k46 n) (fun ob i1 i2 i3 i4 h => ih _ _ _ _ _ h) ob i1 i2 i3 i4 hf
def X_gossip_w46 (NF : Nat) (k46 : Rec → Int32 → Int32 → Int32 → Option (Int32 × Rec)) (ob : Rec) (i1 : Int32) (i2 : Int32) (i3 : Int32) : Option (Int32 × Rec) :=
  if i3 < (gI ob 0) then
    X_gossip_l57 NF k46 NF ob i1 i2 i3 (0 : Int32)
  else
    some ((0 : Int32), ob)
def X_gossip_l46 (NF : Nat) : Nat → Rec → Int32 → Int32 → Int32 → Option (Int32 × Rec)
  | 0, _, _, _, _ => none
  | n + 1, ob, i1, i2, i3 => X_gossip_w46 NF (X_gossip_l46 NF n) ob i1 i2 i3
set_option maxRecDepth 65536 in
set_option maxHeartbeats 4000000 in
theorem X_gossip_w46_p {C : Ctx} {top : Nat} {a : Nat} {H : List (Nat × Nat × Rec)} {res : Int32 × Rec} {NF : Nat} (k46 : Rec → Int32 → Int32 → Int32 → Option (Int32 × Rec)) (hk46 : ∀ (ob : Rec) (i1 : Int32) (i2 : Int32) (i3 : Int32), k46 ob i1 i2 i3 = some res → Runs C B28 0 0 46 [vr a, vi i1, vi i2, vi i3, vn, vn, vn] [] (top, (a, 9, ob) :: H) (Ans (some (.int res.1)) (top, (a, 9, res.2) :: H))) (ob : Rec) (i1 : Int32) (i2 : Int32) (i3 : Int32) (hf : X_gossip_w46 NF k46 ob i1 i2 i3 = some res) : Runs C B28 0 0 46 [vr a, vi i1, vi i2, vi i3, vn, vn, vn] [] (top, (a, 9, ob) :: H) (Ans (some (.int res.1)) (top, (a, 9, res.2) :: H)) := by
  delta X_gossip_w46 at hf
  refine Runs.iloadN d28_46 rfl <| Runs.aloadN d28_47 rfl <| Runs.getI d28_48 w29 fS_0 <| ?_
  refine ite_el hf (fun hc1 hf => ?_) (fun hc1 hf => ?_)
  · refine Runs.icN d28_51 (tlt hc1).2.1 <| ?_
    exact Runs.iconst d28_54 ci_0 <| Runs.istore (P' := [vr a, vi i1, vi i2, vi i3, vi (0 : Int32), vn, vn]) d28_55 (by decide) rfl <| X_gossip_l57_p k46 hk46 NF ob i1 i2 i3 (0 : Int32) hf
  · refine Runs.icY (pc' := 137) d28_51 (flt hc1).2.1 (by decide) <| ?_
    obtain rfl := Option.some.inj hf
    exact Runs.iconst d28_137 ci_0 <| Runs.retI d28_138 rfl ⟨by decide, by decide⟩ ⟨rfl, rfl⟩
theorem X_gossip_l46_p {C : Ctx} {top : Nat} {a : Nat} {H : List (Nat × Nat × Rec)} {res : Int32 × Rec} {NF : Nat} (n : Nat) (ob : Rec) (i1 : Int32) (i2 : Int32) (i3 : Int32) (hf : X_gossip_l46 NF n ob i1 i2 i3 = some res) : Runs C B28 0 0 46 [vr a, vi i1, vi i2, vi i3, vn, vn, vn] [] (top, (a, 9, ob) :: H) (Ans (some (.int res.1)) (top, (a, 9, res.2) :: H)) := by
  induction n generalizing ob i1 i2 i3 with
  | zero => cases (show (none : Option (Int32 × Rec)) = some res from hf)
  | succ n ih => exact X_gossip_w46_p (X_gossip_l46 NF n) (fun ob i1 i2 i3 h => ih _ _ _ _ h) ob i1 i2 i3 hf
def X_gossip (NF : Nat) (ob : Rec) (i1 : Int32) (i2 : Int32) : Option (Int32 × Rec) :=
  (X_validProc ob i1).bind fun r8 =>
  if r8 = (0 : Int32) then
    some ((-1 : Int32), ob)
  else
    (X_validProc ob i2).bind fun r11 =>
    if r11 = (0 : Int32) then
      some ((-1 : Int32), ob)
    else
      if i1 = i2 then
        some ((-1 : Int32), ob)
      else
        chk (8 : Int32) i1 <|
        if (gA ob 1 i1) = (0 : Int32) then
          chk (8 : Int32) i2 <|
          if (gA ob 1 i2) = (0 : Int32) then
            X_gossip_l46 NF NF ob i1 i2 (0 : Int32)
          else
            some ((-2 : Int32), ob)
        else
          some ((-2 : Int32), ob)
set_option maxRecDepth 65536 in
set_option maxHeartbeats 4000000 in
theorem X_gossip_p {C : Ctx} {top : Nat} {a : Nat} {H : List (Nat × Nat × Rec)} {res : Int32 × Rec} {NF : Nat} (ob : Rec) (i1 : Int32) (i2 : Int32) (hf : X_gossip NF ob i1 i2 = some res) : Runs C B28 0 0 0 [vr a, vi i1, vi i2, vn, vn, vn, vn] [] (top, (a, 9, ob) :: H) (Ans (some (.int res.1)) (top, (a, 9, res.2) :: H)) := by
  delta X_gossip at hf
  refine Runs.aloadN d28_0 rfl <| Runs.iloadN d28_1 rfl <| ?_
  refine bind_el hf fun r8 hg9 hf => ?_
  refine Runs.callP (N := B6) (W := 0) (as := [.int i1]) (S' := []) d28_2 w51 w52 w53 rfl cw6 ar6 rk28_6_0 (by decide) rfl rfl (X_validProc_pay hg9) <| ans1 <| ?_
  refine ite_el hf (fun hc10 hf => ?_) (fun hc10 hf => ?_)
  · refine Runs.ifY (pc' := 21) d28_5 (teq hc10).1 (by decide) <| ?_
    obtain rfl := Option.some.inj hf
    exact Runs.iconst d28_21 ci_m1 <| Runs.retI d28_22 rfl ⟨by decide, by decide⟩ ⟨rfl, rfl⟩
  · refine Runs.ifN d28_5 (feq hc10).1 <| ?_
    refine Runs.aloadN d28_8 rfl <| Runs.iloadN d28_9 rfl <| ?_
    refine bind_el hf fun r11 hg12 hf => ?_
    refine Runs.callP (N := B6) (W := 0) (as := [.int i2]) (S' := []) d28_10 w51 w52 w53 rfl cw6 ar6 rk28_6_0 (by decide) rfl rfl (X_validProc_pay hg12) <| ans1 <| ?_
    refine ite_el hf (fun hc13 hf => ?_) (fun hc13 hf => ?_)
    · refine Runs.ifY (pc' := 21) d28_13 (teq hc13).1 (by decide) <| ?_
      obtain rfl := Option.some.inj hf
      exact Runs.iconst d28_21 ci_m1 <| Runs.retI d28_22 rfl ⟨by decide, by decide⟩ ⟨rfl, rfl⟩
    · refine Runs.ifN d28_13 (feq hc13).1 <| ?_
      refine Runs.iloadN d28_16 rfl <| Runs.iloadN d28_17 rfl <| ?_
      refine ite_el hf (fun hc14 hf => ?_) (fun hc14 hf => ?_)
      · refine Runs.icN d28_18 (teq hc14).2 <| ?_
        obtain rfl := Option.some.inj hf
        exact Runs.iconst d28_21 ci_m1 <| Runs.retI d28_22 rfl ⟨by decide, by decide⟩ ⟨rfl, rfl⟩
      · refine Runs.icY (pc' := 23) d28_18 (feq hc14).2 (by decide) <| ?_
        refine Runs.aloadN d28_23 rfl <| Runs.getA d28_24 fA_1 w13 (by decide) <| Runs.iloadN d28_27 rfl <| ?_
        refine chk_el hf fun hi15 hf => ?_
        refine Runs.baloadA d28_28 fA_1 (by decide) hi15 <| ?_
        refine ite_el hf (fun hc16 hf => ?_) (fun hc16 hf => ?_)
        · refine Runs.ifN d28_29 (teq hc16).2 <| ?_
          refine Runs.aloadN d28_32 rfl <| Runs.getA d28_33 fA_1 w13 (by decide) <| Runs.iloadN d28_36 rfl <| ?_
          refine chk_el hf fun hi17 hf => ?_
          refine Runs.baloadA d28_37 fA_1 (by decide) hi17 <| ?_
          refine ite_el hf (fun hc18 hf => ?_) (fun hc18 hf => ?_)
          · refine Runs.ifY (pc' := 44) d28_38 (teq hc18).1 (by decide) <| ?_
            exact Runs.iconst d28_44 ci_0 <| Runs.istoreN (P' := [vr a, vi i1, vi i2, vi (0 : Int32), vn, vn, vn]) d28_45 (by decide) rfl <| X_gossip_l46_p NF ob i1 i2 (0 : Int32) hf
          · refine Runs.ifN d28_38 (feq hc18).1 <| ?_
            obtain rfl := Option.some.inj hf
            exact Runs.bipush d28_41 cb_m2 <| Runs.retI d28_43 rfl ⟨by decide, by decide⟩ ⟨rfl, rfl⟩
        · refine Runs.ifY (pc' := 41) d28_29 (feq hc16).2 (by decide) <| ?_
          obtain rfl := Option.some.inj hf
          exact Runs.bipush d28_41 cb_m2 <| Runs.retI d28_43 rfl ⟨by decide, by decide⟩ ⟨rfl, rfl⟩
theorem X_gossip_pay {C : Ctx} {top : Nat} {a : Nat} {H : List (Nat × Nat × Rec)} {res : Int32 × Rec} {NF : Nat} {ob : Rec} {i1 : Int32} {i2 : Int32} (hf : X_gossip NF ob i1 i2 = some res) : Pays C B28 [.ref a, .int i1, .int i2] (top, (a, 9, ob) :: H) (Ans (some (.int res.1)) (top, (a, 9, res.2) :: H)) :=
  Pays.of pnK (Nat.le_of_ble_eq_true rfl) (P := [vr a, vi i1, vi i2, vn, vn, vn, vn]) 4 rfl (X_gossip_p ob i1 i2 hf)
def X_isStable_w3 (NF : Nat) (ob : Rec) (k3 : Int32 → Int32 → Int32 → Int32 → Option (Int32)) (i1 : Int32) (i2 : Int32) (i3 : Int32) (i4 : Int32) : Option (Int32) :=
  if i4 < (gI ob 0) then
    chk (8 : Int32) i4 <|
    if (gA ob 1 i4) = (0 : Int32) then
      (X_knownIndex ob i1 i4 i2).bind fun r4 =>
      chk (512 : Int32) r4 <|
      if (gA ob 6 r4) < i3 then
        some (0 : Int32)
      else
        k3 i1 i2 i3 (i4 + (1 : Int32))
    else
      k3 i1 i2 i3 (i4 + (1 : Int32))
  else
    some (1 : Int32)
def X_isStable_l3 (NF : Nat) (ob : Rec) : Nat → Int32 → Int32 → Int32 → Int32 → Option (Int32)
  | 0, _, _, _, _ => none
  | n + 1, i1, i2, i3, i4 => X_isStable_w3 NF ob (X_isStable_l3 NF ob n) i1 i2 i3 i4
set_option maxRecDepth 65536 in
set_option maxHeartbeats 4000000 in
theorem X_isStable_w3_p {C : Ctx} {top : Nat} {a : Nat} {H : List (Nat × Nat × Rec)} {ob : Rec} {res : Int32} {NF : Nat} (k3 : Int32 → Int32 → Int32 → Int32 → Option (Int32)) (hk3 : ∀ (i1 : Int32) (i2 : Int32) (i3 : Int32) (i4 : Int32), k3 i1 i2 i3 i4 = some res → Runs C B30 0 0 3 [vr a, vi i1, vi i2, vi i3, vi i4, vn] [] (top, (a, 9, ob) :: H) (Ans (some (.int res)) (top, (a, 9, ob) :: H))) (i1 : Int32) (i2 : Int32) (i3 : Int32) (i4 : Int32) (hf : X_isStable_w3 NF ob k3 i1 i2 i3 i4 = some res) : Runs C B30 0 0 3 [vr a, vi i1, vi i2, vi i3, vi i4, vn] [] (top, (a, 9, ob) :: H) (Ans (some (.int res)) (top, (a, 9, ob) :: H)) := by
  delta X_isStable_w3 at hf
  refine Runs.iload d30_3 rfl <| Runs.aloadN d30_5 rfl <| Runs.getI d30_6 w29 fS_0 <| ?_
  refine ite_el hf (fun hc1 hf => ?_) (fun hc1 hf => ?_)
  · refine Runs.icN d30_9 (tlt hc1).2.1 <| ?_
    refine Runs.aloadN d30_12 rfl <| Runs.getA d30_13 fA_1 w13 (by decide) <| Runs.iload d30_16 rfl <| ?_
    refine chk_el hf fun hi2 hf => ?_
    refine Runs.baloadA d30_18 fA_1 (by decide) hi2 <| ?_
    refine ite_el hf (fun hc3 hf => ?_) (fun hc3 hf => ?_)
    · refine Runs.ifN d30_19 (teq hc3).2 <| ?_
      refine Runs.aloadN d30_22 rfl <| Runs.iloadN d30_23 rfl <| Runs.iload d30_24 rfl <| Runs.iloadN d30_26 rfl <| ?_
      refine bind_el hf fun r4 hg5 hf => ?_
      refine Runs.callP (N := B10) (W := 0) (as := [.int i1, .int i4, .int i2]) (S' := []) d30_27 w67 w68 w69 rfl cw10 ar10 rk30_10_0 (by decide) rfl rfl (X_knownIndex_pay hg5) <| ans1 <| Runs.istore (P' := [vr a, vi i1, vi i2, vi i3, vi i4, vi r4]) d30_30 (by decide) rfl <| Runs.aloadN d30_32 rfl <| Runs.getA d30_33 fA_6 w23 (by decide) <| Runs.iload d30_36 rfl <| ?_
      refine chk_el hf fun hi6 hf => ?_
      refine Runs.ialoadA d30_38 fA_6 (by decide) hi6 <| Runs.iloadN d30_39 rfl <| ?_
      refine ite_el hf (fun hc7 hf => ?_) (fun hc7 hf => ?_)
      · refine Runs.icN d30_40 (tlt hc7).2.1 <| ?_
        obtain rfl := Option.some.inj hf
        exact Runs.iconst d30_43 ci_0 <| Runs.retZ (y := (0 : Int32)) d30_44 rfl ⟨by decide, by decide⟩ rfl ⟨rfl, rfl⟩
      · refine Runs.icY (pc' := 45) d30_40 (flt hc7).2.1 (by decide) <| ?_
        exact Runs.iinc (P' := [vr a, vi i1, vi i2, vi i3, vi (i4 + (1 : Int32)), vi r4]) d30_45 ci_1 rfl (by decide) rfl <| Runs.goto (pc' := 3) d30_48 (by decide) <| Runs.forget [true, true, true, true, true, false] rfl <| hk3 i1 i2 i3 (i4 + (1 : Int32)) hf
    · refine Runs.ifY (pc' := 45) d30_19 (feq hc3).2 (by decide) <| ?_
      exact Runs.iinc (P' := [vr a, vi i1, vi i2, vi i3, vi (i4 + (1 : Int32)), vn]) d30_45 ci_1 rfl (by decide) rfl <| Runs.goto (pc' := 3) d30_48 (by decide) <| hk3 i1 i2 i3 (i4 + (1 : Int32)) hf
  · refine Runs.icY (pc' := 51) d30_9 (flt hc1).2.1 (by decide) <| ?_
    obtain rfl := Option.some.inj hf
    exact Runs.iconst d30_51 ci_1 <| Runs.retZ (y := (1 : Int32)) d30_52 rfl ⟨by decide, by decide⟩ rfl ⟨rfl, rfl⟩
theorem X_isStable_l3_p {C : Ctx} {top : Nat} {a : Nat} {H : List (Nat × Nat × Rec)} {ob : Rec} {res : Int32} {NF : Nat} (n : Nat) (i1 : Int32) (i2 : Int32) (i3 : Int32) (i4 : Int32) (hf : X_isStable_l3 NF ob n i1 i2 i3 i4 = some res) : Runs C B30 0 0 3 [vr a, vi i1, vi i2, vi i3, vi i4, vn] [] (top, (a, 9, ob) :: H) (Ans (some (.int res)) (top, (a, 9, ob) :: H)) := by
  induction n generalizing i1 i2 i3 i4 with
  | zero => cases (show (none : Option (Int32)) = some res from hf)
  | succ n ih => exact X_isStable_w3_p (X_isStable_l3 NF ob n) (fun i1 i2 i3 i4 h => ih _ _ _ _ h) i1 i2 i3 i4 hf
def X_isStable (NF : Nat) (ob : Rec) (i1 : Int32) (i2 : Int32) (i3 : Int32) : Option (Int32) :=
  X_isStable_l3 NF ob NF i1 i2 i3 (0 : Int32)
set_option maxRecDepth 65536 in
set_option maxHeartbeats 4000000 in
theorem X_isStable_p {C : Ctx} {top : Nat} {a : Nat} {H : List (Nat × Nat × Rec)} {ob : Rec} {res : Int32} {NF : Nat} (i1 : Int32) (i2 : Int32) (i3 : Int32) (hf : X_isStable NF ob i1 i2 i3 = some res) : Runs C B30 0 0 0 [vr a, vi i1, vi i2, vi i3, vn, vn] [] (top, (a, 9, ob) :: H) (Ans (some (.int res)) (top, (a, 9, ob) :: H)) := by
  delta X_isStable at hf
  exact Runs.iconst d30_0 ci_0 <| Runs.istore (P' := [vr a, vi i1, vi i2, vi i3, vi (0 : Int32), vn]) d30_1 (by decide) rfl <| X_isStable_l3_p NF i1 i2 i3 (0 : Int32) hf
theorem X_isStable_pay {C : Ctx} {top : Nat} {a : Nat} {H : List (Nat × Nat × Rec)} {ob : Rec} {res : Int32} {NF : Nat} {i1 : Int32} {i2 : Int32} {i3 : Int32} (hf : X_isStable NF ob i1 i2 i3 = some res) : Pays C B30 [.ref a, .int i1, .int i2, .int i3] (top, (a, 9, ob) :: H) (Ans (some (.int res)) (top, (a, 9, ob) :: H)) :=
  Pays.of pnK (Nat.le_of_ble_eq_true rfl) (P := [vr a, vi i1, vi i2, vi i3, vn, vn]) 2 rfl (X_isStable_p i1 i2 i3 hf)
def X_prune_w45 (NF : Nat) (k26 : Rec → Int32 → Int32 → Int32 → Option (Int32 × Rec)) (k45 : Rec → Int32 → Int32 → Int32 → Int32 → Int32 → Option (Int32 × Rec)) (ob : Rec) (i1 : Int32) (i2 : Int32) (i3 : Int32) (i4 : Int32) (i5 : Int32) : Option (Int32 × Rec) :=
  if i4 < i5 then
    k26 ob i1 i2 (i3 + (1 : Int32))
  else
    if (8 : Int32) < i5 then
      k26 ob i1 i2 (i3 + (1 : Int32))
    else
      (X_stateIndex ob i1 i3 i5).bind fun r5 =>
      chk (512 : Int32) r5 <|
      if (gA ob 3 r5) = (2 : Int32) then
        (X_isStable NF ob i1 i3 i5).bind fun r9 =>
        if r9 = (0 : Int32) then
          k45 ob i1 i2 i3 i4 (i5 + (1 : Int32))
        else
          chk (512 : Int32) r5 <|
          k45 (sA ob 3 r5 (3 : Int32)) i1 (i2 + (1 : Int32)) i3 i4 (i5 + (1 : Int32))
      else
        k45 ob i1 i2 i3 i4 (i5 + (1 : Int32))
def X_prune_l45 (NF : Nat) (k26 : Rec → Int32 → Int32 → Int32 → Option (Int32 × Rec)) : Nat → Rec → Int32 → Int32 → Int32 → Int32 → Int32 → Option (Int32 × Rec)
  | 0, _, _, _, _, _, _ => none
  | n + 1, ob, i1, i2, i3, i4, i5 => X_prune_w45 NF k26 (X_prune_l45 NF k26 n) ob i1 i2 i3 i4 i5
set_option maxRecDepth 65536 in
set_option maxHeartbeats 4000000 in
theorem X_prune_w45_p {C : Ctx} {top : Nat} {a : Nat} {H : List (Nat × Nat × Rec)} {res : Int32 × Rec} {NF : Nat} (k26 : Rec → Int32 → Int32 → Int32 → Option (Int32 × Rec)) (hk26 : ∀ (ob : Rec) (i1 : Int32) (i2 : Int32) (i3 : Int32), k26 ob i1 i2 i3 = some res → Runs C B25 0 0 26 [vr a, vi i1, vi i2, vi i3, vn, vn, vn] [] (top, (a, 9, ob) :: H) (Ans (some (.int res.1)) (top, (a, 9, res.2) :: H))) (k45 : Rec → Int32 → Int32 → Int32 → Int32 → Int32 → Option (Int32 × Rec)) (hk45 : ∀ (ob : Rec) (i1 : Int32) (i2 : Int32) (i3 : Int32) (i4 : Int32) (i5 : Int32), k45 ob i1 i2 i3 i4 i5 = some res → Runs C B25 0 0 45 [vr a, vi i1, vi i2, vi i3, vi i4, vi i5, vn] [] (top, (a, 9, ob) :: H) (Ans (some (.int res.1)) (top, (a, 9, res.2) :: H))) (ob : Rec) (i1 : Int32) (i2 : Int32) (i3 : Int32) (i4 : Int32) (i5 : Int32) (hf : X_prune_w45 NF k26 k45 ob i1 i2 i3 i4 i5 = some res) : Runs C B25 0 0 45 [vr a, vi i1, vi i2, vi i3, vi i4, vi i5, vn] [] (top, (a, 9, ob) :: H) (Ans (some (.int res.1)) (top, (a, 9, res.2) :: H)) := by
  delta X_prune_w45 at hf
  refine Runs.iload d25_45 rfl <| Runs.iload d25_47 rfl <| ?_
  refine ite_el hf (fun hc3 hf => ?_) (fun hc3 hf => ?_)
  · refine Runs.icY (pc' := 108) d25_49 (tlt hc3).2.2.1 (by decide) <| ?_
    exact Runs.iinc (P' := [vr a, vi i1, vi i2, vi (i3 + (1 : Int32)), vi i4, vi i5, vn]) d25_108 ci_1 rfl (by decide) rfl <| Runs.goto (pc' := 26) d25_111 (by decide) <| Runs.forget [true, true, true, true, false, false, false] rfl <| hk26 ob i1 i2 (i3 + (1 : Int32)) hf
  · refine Runs.icN d25_49 (flt hc3).2.2.1 <| ?_
    refine Runs.iload d25_52 rfl <| Runs.bipush d25_54 cb_8 <| ?_
    refine ite_el hf (fun hc4 hf => ?_) (fun hc4 hf => ?_)
    · refine Runs.icY (pc' := 108) d25_56 (tlt hc4).2.2.1 (by decide) <| ?_
      exact Runs.iinc (P' := [vr a, vi i1, vi i2, vi (i3 + (1 : Int32)), vi i4, vi i5, vn]) d25_108 ci_1 rfl (by decide) rfl <| Runs.goto (pc' := 26) d25_111 (by decide) <| Runs.forget [true, true, true, true, false, false, false] rfl <| hk26 ob i1 i2 (i3 + (1 : Int32)) hf
    · refine Runs.icN d25_56 (flt hc4).2.2.1 <| ?_
      refine Runs.aloadN d25_59 rfl <| Runs.iloadN d25_60 rfl <| Runs.iloadN d25_61 rfl <| Runs.iload d25_62 rfl <| ?_
      refine bind_el hf fun r5 hg6 hf => ?_
      refine Runs.callP (N := B9) (W := 0) (as := [.int i1, .int i3, .int i5]) (S' := []) d25_64 w63 w64 w65 rfl cw9 ar9 rk25_9_0 (by decide) rfl rfl (X_stateIndex_pay hg6) <| ans1 <| Runs.istore (P' := [vr a, vi i1, vi i2, vi i3, vi i4, vi i5, vi r5]) d25_67 (by decide) rfl <| Runs.aloadN d25_69 rfl <| Runs.getA d25_70 fA_3 w17 (by decide) <| Runs.iload d25_73 rfl <| ?_
      refine chk_el hf fun hi7 hf => ?_
      refine Runs.ialoadA d25_75 fA_3 (by decide) hi7 <| Runs.iconst d25_76 ci_2 <| ?_
      refine ite_el hf (fun hc8 hf => ?_) (fun hc8 hf => ?_)
      · refine Runs.icN d25_77 (teq hc8).2 <| ?_
        refine Runs.aloadN d25_80 rfl <| Runs.iloadN d25_81 rfl <| Runs.iloadN d25_82 rfl <| Runs.iload d25_83 rfl <| ?_
        refine bind_el hf fun r9 hg10 hf => ?_
        refine Runs.callP (N := B30) (W := 0) (as := [.int i1, .int i3, .int i5]) (S' := []) d25_85 w160 w161 w162 rfl cw30 ar30 rk25_30_0 (by decide) rfl rfl (X_isStable_pay hg10) <| ans1 <| ?_
        refine ite_el hf (fun hc11 hf => ?_) (fun hc11 hf => ?_)
        · refine Runs.ifY (pc' := 102) d25_88 (teq hc11).1 (by decide) <| ?_
          exact Runs.iinc (P' := [vr a, vi i1, vi i2, vi i3, vi i4, vi (i5 + (1 : Int32)), vi r5]) d25_102 ci_1 rfl (by decide) rfl <| Runs.goto (pc' := 45) d25_105 (by decide) <| Runs.forget [true, true, true, true, true, true, false] rfl <| hk45 ob i1 i2 i3 i4 (i5 + (1 : Int32)) hf
        · refine Runs.ifN d25_88 (feq hc11).1 <| ?_
          refine Runs.aloadN d25_91 rfl <| Runs.getA d25_92 fA_3 w17 (by decide) <| Runs.iload d25_95 rfl <| Runs.iconst d25_97 ci_3 <| ?_
          refine chk_el hf fun hi12 hf => ?_
          exact Runs.iastoreA d25_98 fA_3 (by decide) hi12 <| Runs.iinc (P' := [vr a, vi i1, vi (i2 + (1 : Int32)), vi i3, vi i4, vi i5, vi r5]) d25_99 ci_1 rfl (by decide) rfl <| Runs.iinc (P' := [vr a, vi i1, vi (i2 + (1 : Int32)), vi i3, vi i4, vi (i5 + (1 : Int32)), vi r5]) d25_102 ci_1 rfl (by decide) rfl <| Runs.goto (pc' := 45) d25_105 (by decide) <| Runs.forget [true, true, true, true, true, true, false] rfl <| hk45 (sA ob 3 r5 (3 : Int32)) i1 (i2 + (1 : Int32)) i3 i4 (i5 + (1 : Int32)) hf
      · refine Runs.icY (pc' := 102) d25_77 (feq hc8).2 (by decide) <| ?_
        exact Runs.iinc (P' := [vr a, vi i1, vi i2, vi i3, vi i4, vi (i5 + (1 : Int32)), vi r5]) d25_102 ci_1 rfl (by decide) rfl <| Runs.goto (pc' := 45) d25_105 (by decide) <| Runs.forget [true, true, true, true, true, true, false] rfl <| hk45 ob i1 i2 i3 i4 (i5 + (1 : Int32)) hf
theorem X_prune_l45_p {C : Ctx} {top : Nat} {a : Nat} {H : List (Nat × Nat × Rec)} {res : Int32 × Rec} {NF : Nat} (k26 : Rec → Int32 → Int32 → Int32 → Option (Int32 × Rec)) (hk26 : ∀ (ob : Rec) (i1 : Int32) (i2 : Int32) (i3 : Int32), k26 ob i1 i2 i3 = some res → Runs C B25 0 0 26 [vr a, vi i1, vi i2, vi i3, vn, vn, vn] [] (top, (a, 9, ob) :: H) (Ans (some (.int res.1)) (top, (a, 9, res.2) :: H))) (n : Nat) (ob : Rec) (i1 : Int32) (i2 : Int32) (i3 : Int32) (i4 : Int32) (i5 : Int32) (hf : X_prune_l45 NF k26 n ob i1 i2 i3 i4 i5 = some res) : Runs C B25 0 0 45 [vr a, vi i1, vi i2, vi i3, vi i4, vi i5, vn] [] (top, (a, 9, ob) :: H) (Ans (some (.int res.1)) (top, (a, 9, res.2) :: H)) := by
  induction n generalizing ob i1 i2 i3 i4 i5 with
  | zero => cases (show (none : Option (Int32 × Rec)) = some res from hf)
  | succ n ih => exact X_prune_w45_p k26 hk26 (X_prune_l45 NF k26 n) (fun ob i1 i2 i3 i4 i5 h => ih _ _ _ _ _ _ h) ob i1 i2 i3 i4 i5 hf
def X_prune_w26 (NF : Nat) (k26 : Rec → Int32 → Int32 → Int32 → Option (Int32 × Rec)) (ob : Rec) (i1 : Int32) (i2 : Int32) (i3 : Int32) : Option (Int32 × Rec) :=
  if i3 < (gI ob 0) then
    chk (8 : Int32) i3 <|
    X_prune_l45 NF k26 NF ob i1 i2 i3 (gA ob 0 i3) (1 : Int32)
  else
    some (i2, ob)
def X_prune_l26 (NF : Nat) : Nat → Rec → Int32 → Int32 → Int32 → Option (Int32 × Rec)
  | 0, _, _, _, _ => none
  | n + 1, ob, i1, i2, i3 => X_prune_w26 NF (X_prune_l26 NF n) ob i1 i2 i3
set_option maxRecDepth 65536 in
set_option maxHeartbeats 4000000 in
theorem X_prune_w26_p {C : Ctx} {top : Nat} {a : Nat} {H : List (Nat × Nat × Rec)} {res : Int32 × Rec} {NF : Nat} (k26 : Rec → Int32 → Int32 → Int32 → Option (Int32 × Rec)) (hk26 : ∀ (ob : Rec) (i1 : Int32) (i2 : Int32) (i3 : Int32), k26 ob i1 i2 i3 = some res → Runs C B25 0 0 26 [vr a, vi i1, vi i2, vi i3, vn, vn, vn] [] (top, (a, 9, ob) :: H) (Ans (some (.int res.1)) (top, (a, 9, res.2) :: H))) (ob : Rec) (i1 : Int32) (i2 : Int32) (i3 : Int32) (hf : X_prune_w26 NF k26 ob i1 i2 i3 = some res) : Runs C B25 0 0 26 [vr a, vi i1, vi i2, vi i3, vn, vn, vn] [] (top, (a, 9, ob) :: H) (Ans (some (.int res.1)) (top, (a, 9, res.2) :: H)) := by
  delta X_prune_w26 at hf
  refine Runs.iloadN d25_26 rfl <| Runs.aloadN d25_27 rfl <| Runs.getI d25_28 w29 fS_0 <| ?_
  refine ite_el hf (fun hc1 hf => ?_) (fun hc1 hf => ?_)
  · refine Runs.icN d25_31 (tlt hc1).2.1 <| ?_
    refine Runs.aloadN d25_34 rfl <| Runs.getA d25_35 fA_0 w10 (by decide) <| Runs.iloadN d25_38 rfl <| ?_
    refine chk_el hf fun hi2 hf => ?_
    exact Runs.ialoadA d25_39 fA_0 (by decide) hi2 <| Runs.istore (P' := [vr a, vi i1, vi i2, vi i3, vi (gA ob 0 i3), vn, vn]) d25_40 (by decide) rfl <| Runs.iconst d25_42 ci_1 <| Runs.istore (P' := [vr a, vi i1, vi i2, vi i3, vi (gA ob 0 i3), vi (1 : Int32), vn]) d25_43 (by decide) rfl <| X_prune_l45_p k26 hk26 NF ob i1 i2 i3 (gA ob 0 i3) (1 : Int32) hf
  · refine Runs.icY (pc' := 114) d25_31 (flt hc1).2.1 (by decide) <| ?_
    obtain rfl := Option.some.inj hf
    exact Runs.iloadN d25_114 rfl <| Runs.retI d25_115 rfl ⟨by decide, by decide⟩ ⟨rfl, rfl⟩
theorem X_prune_l26_p {C : Ctx} {top : Nat} {a : Nat} {H : List (Nat × Nat × Rec)} {res : Int32 × Rec} {NF : Nat} (n : Nat) (ob : Rec) (i1 : Int32) (i2 : Int32) (i3 : Int32) (hf : X_prune_l26 NF n ob i1 i2 i3 = some res) : Runs C B25 0 0 26 [vr a, vi i1, vi i2, vi i3, vn, vn, vn] [] (top, (a, 9, ob) :: H) (Ans (some (.int res.1)) (top, (a, 9, res.2) :: H)) := by
  induction n generalizing ob i1 i2 i3 with
  | zero => cases (show (none : Option (Int32 × Rec)) = some res from hf)
  | succ n ih => exact X_prune_w26_p (X_prune_l26 NF n) (fun ob i1 i2 i3 h => ih _ _ _ _ h) ob i1 i2 i3 hf
def X_prune (NF : Nat) (ob : Rec) (i1 : Int32) : Option (Int32 × Rec) :=
  (X_validProc ob i1).bind fun r13 =>
  if r13 = (0 : Int32) then
    some ((-1 : Int32), ob)
  else
    chk (8 : Int32) i1 <|
    if (gA ob 1 i1) = (0 : Int32) then
      X_prune_l26 NF NF ob i1 (0 : Int32) (0 : Int32)
    else
      some ((-2 : Int32), ob)
set_option maxRecDepth 65536 in
set_option maxHeartbeats 4000000 in
theorem X_prune_p {C : Ctx} {top : Nat} {a : Nat} {H : List (Nat × Nat × Rec)} {res : Int32 × Rec} {NF : Nat} (ob : Rec) (i1 : Int32) (hf : X_prune NF ob i1 = some res) : Runs C B25 0 0 0 [vr a, vi i1, vn, vn, vn, vn, vn] [] (top, (a, 9, ob) :: H) (Ans (some (.int res.1)) (top, (a, 9, res.2) :: H)) := by
  delta X_prune at hf
  refine Runs.aloadN d25_0 rfl <| Runs.iloadN d25_1 rfl <| ?_
  refine bind_el hf fun r13 hg14 hf => ?_
  refine Runs.callP (N := B6) (W := 0) (as := [.int i1]) (S' := []) d25_2 w51 w52 w53 rfl cw6 ar6 rk25_6_0 (by decide) rfl rfl (X_validProc_pay hg14) <| ans1 <| ?_
  refine ite_el hf (fun hc15 hf => ?_) (fun hc15 hf => ?_)
  · refine Runs.ifN d25_5 (teq hc15).2 <| ?_
    obtain rfl := Option.some.inj hf
    exact Runs.iconst d25_8 ci_m1 <| Runs.retI d25_9 rfl ⟨by decide, by decide⟩ ⟨rfl, rfl⟩
  · refine Runs.ifY (pc' := 10) d25_5 (feq hc15).2 (by decide) <| ?_
    refine Runs.aloadN d25_10 rfl <| Runs.getA d25_11 fA_1 w13 (by decide) <| Runs.iloadN d25_14 rfl <| ?_
    refine chk_el hf fun hi16 hf => ?_
    refine Runs.baloadA d25_15 fA_1 (by decide) hi16 <| ?_
    refine ite_el hf (fun hc17 hf => ?_) (fun hc17 hf => ?_)
    · refine Runs.ifY (pc' := 22) d25_16 (teq hc17).1 (by decide) <| ?_
      exact Runs.iconst d25_22 ci_0 <| Runs.istoreN (P' := [vr a, vi i1, vi (0 : Int32), vn, vn, vn, vn]) d25_23 (by decide) rfl <| Runs.iconst d25_24 ci_0 <| Runs.istoreN (P' := [vr a, vi i1, vi (0 : Int32), vi (0 : Int32), vn, vn, vn]) d25_25 (by decide) rfl <| X_prune_l26_p NF ob i1 (0 : Int32) (0 : Int32) hf
    · refine Runs.ifN d25_16 (feq hc17).1 <| ?_
      obtain rfl := Option.some.inj hf
      exact Runs.bipush d25_19 cb_m2 <| Runs.retI d25_21 rfl ⟨by decide, by decide⟩ ⟨rfl, rfl⟩
theorem X_prune_pay {C : Ctx} {top : Nat} {a : Nat} {H : List (Nat × Nat × Rec)} {res : Int32 × Rec} {NF : Nat} {ob : Rec} {i1 : Int32} (hf : X_prune NF ob i1 = some res) : Pays C B25 [.ref a, .int i1] (top, (a, 9, ob) :: H) (Ans (some (.int res.1)) (top, (a, 9, res.2) :: H)) :=
  Pays.of pnK (Nat.le_of_ble_eq_true rfl) (P := [vr a, vi i1, vn, vn, vn, vn, vn]) 5 rfl (X_prune_p ob i1 hf)
def X_othersAllCrashed_w2 (NF : Nat) (ob : Rec) (k2 : Int32 → Int32 → Option (Int32)) (i1 : Int32) (i2 : Int32) : Option (Int32) :=
  if i2 < (gI ob 0) then
    if i2 = i1 then
      k2 i1 (i2 + (1 : Int32))
    else
      chk (8 : Int32) i2 <|
      if (gA ob 1 i2) = (0 : Int32) then
        some (0 : Int32)
      else
        k2 i1 (i2 + (1 : Int32))
  else
    some (1 : Int32)
def X_othersAllCrashed_l2 (NF : Nat) (ob : Rec) : Nat → Int32 → Int32 → Option (Int32)
  | 0, _, _ => none
  | n + 1, i1, i2 => X_othersAllCrashed_w2 NF ob (X_othersAllCrashed_l2 NF ob n) i1 i2
set_option maxRecDepth 65536 in
set_option maxHeartbeats 4000000 in
theorem X_othersAllCrashed_w2_p {C : Ctx} {top : Nat} {a : Nat} {H : List (Nat × Nat × Rec)} {ob : Rec} {res : Int32} {NF : Nat} (k2 : Int32 → Int32 → Option (Int32)) (hk2 : ∀ (i1 : Int32) (i2 : Int32), k2 i1 i2 = some res → Runs C B29 0 0 2 [vr a, vi i1, vi i2] [] (top, (a, 9, ob) :: H) (Ans (some (.int res)) (top, (a, 9, ob) :: H))) (i1 : Int32) (i2 : Int32) (hf : X_othersAllCrashed_w2 NF ob k2 i1 i2 = some res) : Runs C B29 0 0 2 [vr a, vi i1, vi i2] [] (top, (a, 9, ob) :: H) (Ans (some (.int res)) (top, (a, 9, ob) :: H)) := by
  delta X_othersAllCrashed_w2 at hf
  refine Runs.iloadN d29_2 rfl <| Runs.aloadN d29_3 rfl <| Runs.getI d29_4 w29 fS_0 <| ?_
  refine ite_el hf (fun hc1 hf => ?_) (fun hc1 hf => ?_)
  · refine Runs.icN d29_7 (tlt hc1).2.1 <| ?_
    refine Runs.iloadN d29_10 rfl <| Runs.iloadN d29_11 rfl <| ?_
    refine ite_el hf (fun hc2 hf => ?_) (fun hc2 hf => ?_)
    · refine Runs.icY (pc' := 26) d29_12 (teq hc2).1 (by decide) <| ?_
      exact Runs.iinc (P' := [vr a, vi i1, vi (i2 + (1 : Int32))]) d29_26 ci_1 rfl (by decide) rfl <| Runs.goto (pc' := 2) d29_29 (by decide) <| hk2 i1 (i2 + (1 : Int32)) hf
    · refine Runs.icN d29_12 (feq hc2).1 <| ?_
      refine Runs.aloadN d29_15 rfl <| Runs.getA d29_16 fA_1 w13 (by decide) <| Runs.iloadN d29_19 rfl <| ?_
      refine chk_el hf fun hi3 hf => ?_
      refine Runs.baloadA d29_20 fA_1 (by decide) hi3 <| ?_
      refine ite_el hf (fun hc4 hf => ?_) (fun hc4 hf => ?_)
      · refine Runs.ifN d29_21 (teq hc4).2 <| ?_
        obtain rfl := Option.some.inj hf
        exact Runs.iconst d29_24 ci_0 <| Runs.retZ (y := (0 : Int32)) d29_25 rfl ⟨by decide, by decide⟩ rfl ⟨rfl, rfl⟩
      · refine Runs.ifY (pc' := 26) d29_21 (feq hc4).2 (by decide) <| ?_
        exact Runs.iinc (P' := [vr a, vi i1, vi (i2 + (1 : Int32))]) d29_26 ci_1 rfl (by decide) rfl <| Runs.goto (pc' := 2) d29_29 (by decide) <| hk2 i1 (i2 + (1 : Int32)) hf
  · refine Runs.icY (pc' := 32) d29_7 (flt hc1).2.1 (by decide) <| ?_
    obtain rfl := Option.some.inj hf
    exact Runs.iconst d29_32 ci_1 <| Runs.retZ (y := (1 : Int32)) d29_33 rfl ⟨by decide, by decide⟩ rfl ⟨rfl, rfl⟩
theorem X_othersAllCrashed_l2_p {C : Ctx} {top : Nat} {a : Nat} {H : List (Nat × Nat × Rec)} {ob : Rec} {res : Int32} {NF : Nat} (n : Nat) (i1 : Int32) (i2 : Int32) (hf : X_othersAllCrashed_l2 NF ob n i1 i2 = some res) : Runs C B29 0 0 2 [vr a, vi i1, vi i2] [] (top, (a, 9, ob) :: H) (Ans (some (.int res)) (top, (a, 9, ob) :: H)) := by
  induction n generalizing i1 i2 with
  | zero => cases (show (none : Option (Int32)) = some res from hf)
  | succ n ih => exact X_othersAllCrashed_w2_p (X_othersAllCrashed_l2 NF ob n) (fun i1 i2 h => ih _ _ h) i1 i2 hf
def X_othersAllCrashed (NF : Nat) (ob : Rec) (i1 : Int32) : Option (Int32) :=
  X_othersAllCrashed_l2 NF ob NF i1 (0 : Int32)
set_option maxRecDepth 65536 in
set_option maxHeartbeats 4000000 in
theorem X_othersAllCrashed_p {C : Ctx} {top : Nat} {a : Nat} {H : List (Nat × Nat × Rec)} {ob : Rec} {res : Int32} {NF : Nat} (i1 : Int32) (hf : X_othersAllCrashed NF ob i1 = some res) : Runs C B29 0 0 0 [vr a, vi i1, vn] [] (top, (a, 9, ob) :: H) (Ans (some (.int res)) (top, (a, 9, ob) :: H)) := by
  delta X_othersAllCrashed at hf
  exact Runs.iconst d29_0 ci_0 <| Runs.istoreN (P' := [vr a, vi i1, vi (0 : Int32)]) d29_1 (by decide) rfl <| X_othersAllCrashed_l2_p NF i1 (0 : Int32) hf
theorem X_othersAllCrashed_pay {C : Ctx} {top : Nat} {a : Nat} {H : List (Nat × Nat × Rec)} {ob : Rec} {res : Int32} {NF : Nat} {i1 : Int32} (hf : X_othersAllCrashed NF ob i1 = some res) : Pays C B29 [.ref a, .int i1] (top, (a, 9, ob) :: H) (Ans (some (.int res)) (top, (a, 9, ob) :: H)) :=
  Pays.of pnK (Nat.le_of_ble_eq_true rfl) (P := [vr a, vi i1, vn]) 1 rfl (X_othersAllCrashed_p i1 hf)
def X_crash (NF : Nat) (ob : Rec) (i1 : Int32) : Option (Int32 × Rec) :=
  (X_validProc ob i1).bind fun r1 =>
  if r1 = (0 : Int32) then
    some ((-1 : Int32), ob)
  else
    chk (8 : Int32) i1 <|
    if (gA ob 1 i1) = (0 : Int32) then
      (X_othersAllCrashed NF ob i1).bind fun r6 =>
      if r6 = (0 : Int32) then
        chk (8 : Int32) i1 <|
        some ((0 : Int32), (sA ob 1 i1 (1 : Int32)))
      else
        some ((-7 : Int32), ob)
    else
      some ((-2 : Int32), ob)
set_option maxRecDepth 65536 in
set_option maxHeartbeats 4000000 in
theorem X_crash_p {C : Ctx} {top : Nat} {a : Nat} {H : List (Nat × Nat × Rec)} {res : Int32 × Rec} {NF : Nat} (ob : Rec) (i1 : Int32) (hf : X_crash NF ob i1 = some res) : Runs C B27 0 0 0 [vr a, vi i1] [] (top, (a, 9, ob) :: H) (Ans (some (.int res.1)) (top, (a, 9, res.2) :: H)) := by
  delta X_crash at hf
  refine Runs.aloadN d27_0 rfl <| Runs.iloadN d27_1 rfl <| ?_
  refine bind_el hf fun r1 hg2 hf => ?_
  refine Runs.callP (N := B6) (W := 0) (as := [.int i1]) (S' := []) d27_2 w51 w52 w53 rfl cw6 ar6 rk27_6_0 (by decide) rfl rfl (X_validProc_pay hg2) <| ans1 <| ?_
  refine ite_el hf (fun hc3 hf => ?_) (fun hc3 hf => ?_)
  · refine Runs.ifN d27_5 (teq hc3).2 <| ?_
    obtain rfl := Option.some.inj hf
    exact Runs.iconst d27_8 ci_m1 <| Runs.retI d27_9 rfl ⟨by decide, by decide⟩ ⟨rfl, rfl⟩
  · refine Runs.ifY (pc' := 10) d27_5 (feq hc3).2 (by decide) <| ?_
    refine Runs.aloadN d27_10 rfl <| Runs.getA d27_11 fA_1 w13 (by decide) <| Runs.iloadN d27_14 rfl <| ?_
    refine chk_el hf fun hi4 hf => ?_
    refine Runs.baloadA d27_15 fA_1 (by decide) hi4 <| ?_
    refine ite_el hf (fun hc5 hf => ?_) (fun hc5 hf => ?_)
    · refine Runs.ifY (pc' := 22) d27_16 (teq hc5).1 (by decide) <| ?_
      refine Runs.aloadN d27_22 rfl <| Runs.iloadN d27_23 rfl <| ?_
      refine bind_el hf fun r6 hg7 hf => ?_
      refine Runs.callP (N := B29) (W := 0) (as := [.int i1]) (S' := []) d27_24 w156 w157 w158 rfl cw29 ar29 rk27_29_0 (by decide) rfl rfl (X_othersAllCrashed_pay hg7) <| ans1 <| ?_
      refine ite_el hf (fun hc8 hf => ?_) (fun hc8 hf => ?_)
      · refine Runs.ifY (pc' := 33) d27_27 (teq hc8).1 (by decide) <| ?_
        refine Runs.aloadN d27_33 rfl <| Runs.getA d27_34 fA_1 w13 (by decide) <| Runs.iloadN d27_37 rfl <| Runs.iconst d27_38 ci_1 <| ?_
        refine chk_el hf fun hi9 hf => ?_
        obtain rfl := Option.some.inj hf
        exact Runs.bastoreA (y := (1 : Int32)) d27_39 fA_1 (by decide) hi9 rfl <| Runs.iconst d27_40 ci_0 <| Runs.retI d27_41 rfl ⟨by decide, by decide⟩ ⟨rfl, rfl⟩
      · refine Runs.ifN d27_27 (feq hc8).1 <| ?_
        obtain rfl := Option.some.inj hf
        exact Runs.bipush d27_30 cb_m7 <| Runs.retI d27_32 rfl ⟨by decide, by decide⟩ ⟨rfl, rfl⟩
    · refine Runs.ifN d27_16 (feq hc5).1 <| ?_
      obtain rfl := Option.some.inj hf
      exact Runs.bipush d27_19 cb_m2 <| Runs.retI d27_21 rfl ⟨by decide, by decide⟩ ⟨rfl, rfl⟩
theorem X_crash_pay {C : Ctx} {top : Nat} {a : Nat} {H : List (Nat × Nat × Rec)} {res : Int32 × Rec} {NF : Nat} {ob : Rec} {i1 : Int32} (hf : X_crash NF ob i1 = some res) : Pays C B27 [.ref a, .int i1] (top, (a, 9, ob) :: H) (Ans (some (.int res.1)) (top, (a, 9, res.2) :: H)) :=
  Pays.of pnK (Nat.le_of_ble_eq_true rfl) (P := [vr a, vi i1]) 0 rfl (X_crash_p ob i1 hf)
def L_step (NF : Nat) (ob : Rec) (i1 : Int32) (i2 : Int32) (i3 : Int32) (i4 : Int32) (i5 : Int32) : Option (Rec) :=
  if i1 = (0 : Int32) then
    bind2 (X_broadcast NF ob i2) fun r2 q3 =>
    some q3
  else
    if i1 = (2 : Int32) then
      bind2 (X_duplicate ob i2 i3 i4) fun r6 q7 =>
      some q7
    else
      if i1 = (3 : Int32) then
        bind2 (X_drop ob i2 i3 i4) fun r10 q11 =>
        some q11
      else
        if i1 = (4 : Int32) then
          bind2 (X_retransmit ob i2 i3 i4 i5) fun r14 q15 =>
          some q15
        else
          if i1 = (5 : Int32) then
            bind2 (X_gossip NF ob i2 i3) fun r18 q19 =>
            some q19
          else
            if i1 = (6 : Int32) then
              bind2 (X_prune NF ob i2) fun r22 q23 =>
              some q23
            else
              if i1 = (7 : Int32) then
                bind2 (X_crash NF ob i2) fun r26 q27 =>
                some q27
              else
                some ob
set_option maxRecDepth 65536 in
set_option maxHeartbeats 4000000 in
theorem L_step_p {C : Ctx} {top : Nat} {a : Nat} {H : List (Nat × Nat × Rec)} {res : Rec} {NF : Nat} (ob : Rec) (i1 : Int32) (i2 : Int32) (i3 : Int32) (i4 : Int32) (i5 : Int32) (hf : L_step NF ob i1 i2 i3 i4 i5 = some res) : Runs C B2 0 0 0 [vr a, vi i1, vi i2, vi i3, vi i4, vi i5] [] (top, (a, 9, ob) :: H) (Ans none (top, (a, 9, res) :: H)) := by
  delta L_step at hf
  refine Runs.iloadN d2_0 rfl <| ?_
  refine ite_el hf (fun hc1 hf => ?_) (fun hc1 hf => ?_)
  · refine Runs.ifN d2_1 (teq hc1).2 <| ?_
    refine Runs.aloadN d2_4 rfl <| Runs.iloadN d2_5 rfl <| ?_
    refine bind2_el hf fun r2 q3 hg4 hf => ?_
    obtain rfl := Option.some.inj hf
    exact Runs.callV (N := B5) (W := 0) (as := [.int i2]) (S' := []) d2_6 w46 w47 w48 w49 cw5 ar5 rk2_5_0 (by decide) rfl rfl (X_broadcast_pay hg4) <| ans1 <| Runs.pop d2_9 rfl <| Runs.goto (pc' := 108) d2_10 (by decide) <| Runs.retV d2_108 rfl ⟨by decide, by decide⟩ ⟨rfl, rfl⟩
  · refine Runs.ifY (pc' := 13) d2_1 (feq hc1).2 (by decide) <| ?_
    refine Runs.iloadN d2_13 rfl <| Runs.iconst d2_14 ci_2 <| ?_
    refine ite_el hf (fun hc5 hf => ?_) (fun hc5 hf => ?_)
    · refine Runs.icN d2_15 (teq hc5).2 <| ?_
      refine Runs.aloadN d2_18 rfl <| Runs.iloadN d2_19 rfl <| Runs.iloadN d2_20 rfl <| Runs.iload d2_21 rfl <| ?_
      refine bind2_el hf fun r6 q7 hg8 hf => ?_
      obtain rfl := Option.some.inj hf
      exact Runs.callV (N := B11) (W := 0) (as := [.int i2, .int i3, .int i4]) (S' := []) d2_23 w71 w72 w73 w74 cw11 ar11 rk2_11_0 (by decide) rfl rfl (X_duplicate_pay hg8) <| ans1 <| Runs.pop d2_26 rfl <| Runs.goto (pc' := 108) d2_27 (by decide) <| Runs.retV d2_108 rfl ⟨by decide, by decide⟩ ⟨rfl, rfl⟩
    · refine Runs.icY (pc' := 30) d2_15 (feq hc5).2 (by decide) <| ?_
      refine Runs.iloadN d2_30 rfl <| Runs.iconst d2_31 ci_3 <| ?_
      refine ite_el hf (fun hc9 hf => ?_) (fun hc9 hf => ?_)
      · refine Runs.icN d2_32 (teq hc9).2 <| ?_
        refine Runs.aloadN d2_35 rfl <| Runs.iloadN d2_36 rfl <| Runs.iloadN d2_37 rfl <| Runs.iload d2_38 rfl <| ?_
        refine bind2_el hf fun r10 q11 hg12 hf => ?_
        obtain rfl := Option.some.inj hf
        exact Runs.callV (N := B3) (W := 0) (as := [.int i2, .int i3, .int i4]) (S' := []) d2_40 w37 w38 w39 w40 cw3 ar3 rk2_3_0 (by decide) rfl rfl (X_drop_pay hg12) <| ans1 <| Runs.pop d2_43 rfl <| Runs.goto (pc' := 108) d2_44 (by decide) <| Runs.retV d2_108 rfl ⟨by decide, by decide⟩ ⟨rfl, rfl⟩
      · refine Runs.icY (pc' := 47) d2_32 (feq hc9).2 (by decide) <| ?_
        refine Runs.iloadN d2_47 rfl <| Runs.iconst d2_48 ci_4 <| ?_
        refine ite_el hf (fun hc13 hf => ?_) (fun hc13 hf => ?_)
        · refine Runs.icN d2_49 (teq hc13).2 <| ?_
          refine Runs.aloadN d2_52 rfl <| Runs.iloadN d2_53 rfl <| Runs.iloadN d2_54 rfl <| Runs.iload d2_55 rfl <| Runs.iload d2_57 rfl <| ?_
          refine bind2_el hf fun r14 q15 hg16 hf => ?_
          obtain rfl := Option.some.inj hf
          exact Runs.callV (N := B26) (W := 0) (as := [.int i2, .int i3, .int i4, .int i5]) (S' := []) d2_59 w141 w142 w143 w144 cw26 ar26 rk2_26_0 (by decide) rfl rfl (X_retransmit_pay hg16) <| ans1 <| Runs.pop d2_62 rfl <| Runs.goto (pc' := 108) d2_63 (by decide) <| Runs.retV d2_108 rfl ⟨by decide, by decide⟩ ⟨rfl, rfl⟩
        · refine Runs.icY (pc' := 66) d2_49 (feq hc13).2 (by decide) <| ?_
          refine Runs.iloadN d2_66 rfl <| Runs.iconst d2_67 ci_5 <| ?_
          refine ite_el hf (fun hc17 hf => ?_) (fun hc17 hf => ?_)
          · refine Runs.icN d2_68 (teq hc17).2 <| ?_
            refine Runs.aloadN d2_71 rfl <| Runs.iloadN d2_72 rfl <| Runs.iloadN d2_73 rfl <| ?_
            refine bind2_el hf fun r18 q19 hg20 hf => ?_
            obtain rfl := Option.some.inj hf
            exact Runs.callV (N := B28) (W := 0) (as := [.int i2, .int i3]) (S' := []) d2_74 w151 w152 w153 w154 cw28 ar28 rk2_28_0 (by decide) rfl rfl (X_gossip_pay hg20) <| ans1 <| Runs.pop d2_77 rfl <| Runs.goto (pc' := 108) d2_78 (by decide) <| Runs.retV d2_108 rfl ⟨by decide, by decide⟩ ⟨rfl, rfl⟩
          · refine Runs.icY (pc' := 81) d2_68 (feq hc17).2 (by decide) <| ?_
            refine Runs.iloadN d2_81 rfl <| Runs.bipush d2_82 cb_6 <| ?_
            refine ite_el hf (fun hc21 hf => ?_) (fun hc21 hf => ?_)
            · refine Runs.icN d2_84 (teq hc21).2 <| ?_
              refine Runs.aloadN d2_87 rfl <| Runs.iloadN d2_88 rfl <| ?_
              refine bind2_el hf fun r22 q23 hg24 hf => ?_
              obtain rfl := Option.some.inj hf
              exact Runs.callV (N := B25) (W := 0) (as := [.int i2]) (S' := []) d2_89 w136 w137 w138 w139 cw25 ar25 rk2_25_0 (by decide) rfl rfl (X_prune_pay hg24) <| ans1 <| Runs.pop d2_92 rfl <| Runs.goto (pc' := 108) d2_93 (by decide) <| Runs.retV d2_108 rfl ⟨by decide, by decide⟩ ⟨rfl, rfl⟩
            · refine Runs.icY (pc' := 96) d2_84 (feq hc21).2 (by decide) <| ?_
              refine Runs.iloadN d2_96 rfl <| Runs.bipush d2_97 cb_7 <| ?_
              refine ite_el hf (fun hc25 hf => ?_) (fun hc25 hf => ?_)
              · refine Runs.icN d2_99 (teq hc25).2 <| ?_
                refine Runs.aloadN d2_102 rfl <| Runs.iloadN d2_103 rfl <| ?_
                refine bind2_el hf fun r26 q27 hg28 hf => ?_
                obtain rfl := Option.some.inj hf
                exact Runs.callV (N := B27) (W := 0) (as := [.int i2]) (S' := []) d2_104 w146 w147 w148 w149 cw27 ar27 rk2_27_0 (by decide) rfl rfl (X_crash_pay hg28) <| ans1 <| Runs.pop d2_107 rfl <| Runs.retV d2_108 rfl ⟨by decide, by decide⟩ ⟨rfl, rfl⟩
              · refine Runs.icY (pc' := 108) d2_99 (feq hc25).2 (by decide) <| ?_
                obtain rfl := Option.some.inj hf
                exact Runs.retV d2_108 rfl ⟨by decide, by decide⟩ ⟨rfl, rfl⟩
theorem L_step_pay {C : Ctx} {top : Nat} {a : Nat} {H : List (Nat × Nat × Rec)} {res : Rec} {NF : Nat} {ob : Rec} {i1 : Int32} {i2 : Int32} {i3 : Int32} {i4 : Int32} {i5 : Int32} (hf : L_step NF ob i1 i2 i3 i4 i5 = some res) : Pays C B2 [.ref a, .int i1, .int i2, .int i3, .int i4, .int i5] (top, (a, 9, ob) :: H) (Ans none (top, (a, 9, res) :: H)) :=
  Pays.of pnL (Nat.le_of_ble_eq_true rfl) (P := [vr a, vi i1, vi i2, vi i3, vi i4, vi i5]) 0 rfl (L_step_p ob i1 i2 i3 i4 i5 hf)
def X_sent (ob : Rec) (i1 : Int32) : Option (Int32) :=
  (X_validProc ob i1).bind fun r1 =>
  if r1 = (0 : Int32) then
    some (-1 : Int32)
  else
    chk (8 : Int32) i1 <|
    some (gA ob 0 i1)
set_option maxRecDepth 65536 in
set_option maxHeartbeats 4000000 in
theorem X_sent_p {C : Ctx} {top : Nat} {a : Nat} {H : List (Nat × Nat × Rec)} {ob : Rec} {res : Int32} (i1 : Int32) (hf : X_sent ob i1 = some res) : Runs C B19 0 0 0 [vr a, vi i1] [] (top, (a, 9, ob) :: H) (Ans (some (.int res)) (top, (a, 9, ob) :: H)) := by
  delta X_sent at hf
  refine Runs.aloadN d19_0 rfl <| Runs.iloadN d19_1 rfl <| ?_
  refine bind_el hf fun r1 hg2 hf => ?_
  refine Runs.callP (N := B6) (W := 0) (as := [.int i1]) (S' := []) d19_2 w51 w52 w53 rfl cw6 ar6 rk19_6_0 (by decide) rfl rfl (X_validProc_pay hg2) <| ans1 <| ?_
  refine ite_el hf (fun hc3 hf => ?_) (fun hc3 hf => ?_)
  · refine Runs.ifN d19_5 (teq hc3).2 <| ?_
    obtain rfl := Option.some.inj hf
    exact Runs.iconst d19_8 ci_m1 <| Runs.retI d19_9 rfl ⟨by decide, by decide⟩ ⟨rfl, rfl⟩
  · refine Runs.ifY (pc' := 10) d19_5 (feq hc3).2 (by decide) <| ?_
    refine Runs.aloadN d19_10 rfl <| Runs.getA d19_11 fA_0 w10 (by decide) <| Runs.iloadN d19_14 rfl <| ?_
    refine chk_el hf fun hi4 hf => ?_
    obtain rfl := Option.some.inj hf
    exact Runs.ialoadA d19_15 fA_0 (by decide) hi4 <| Runs.retI d19_16 rfl ⟨by decide, by decide⟩ ⟨rfl, rfl⟩
theorem X_sent_pay {C : Ctx} {top : Nat} {a : Nat} {H : List (Nat × Nat × Rec)} {ob : Rec} {res : Int32} {i1 : Int32} (hf : X_sent ob i1 = some res) : Pays C B19 [.ref a, .int i1] (top, (a, 9, ob) :: H) (Ans (some (.int res)) (top, (a, 9, ob) :: H)) :=
  Pays.of pnK (Nat.le_of_ble_eq_true rfl) (P := [vr a, vi i1]) 0 rfl (X_sent_p i1 hf)
def X_deliveredAt (ob : Rec) (i1 : Int32) (i2 : Int32) : Option (Int32) :=
  (X_validProc ob i1).bind fun r1 =>
  if r1 = (0 : Int32) then
    some (-1 : Int32)
  else
    if i2 < (0 : Int32) then
      some (-1 : Int32)
    else
      chk (8 : Int32) i1 <|
      if i2 < (gA ob 8 i1) then
        if i2 < (64 : Int32) then
          chk (512 : Int32) ((i1 * (64 : Int32)) + i2) <|
          some (gA ob 7 ((i1 * (64 : Int32)) + i2))
        else
          some (-1 : Int32)
      else
        some (-1 : Int32)
set_option maxRecDepth 65536 in
set_option maxHeartbeats 4000000 in
theorem X_deliveredAt_p {C : Ctx} {top : Nat} {a : Nat} {H : List (Nat × Nat × Rec)} {ob : Rec} {res : Int32} (i1 : Int32) (i2 : Int32) (hf : X_deliveredAt ob i1 i2 = some res) : Runs C B20 0 0 0 [vr a, vi i1, vi i2] [] (top, (a, 9, ob) :: H) (Ans (some (.int res)) (top, (a, 9, ob) :: H)) := by
  delta X_deliveredAt at hf
  refine Runs.aloadN d20_0 rfl <| Runs.iloadN d20_1 rfl <| ?_
  refine bind_el hf fun r1 hg2 hf => ?_
  refine Runs.callP (N := B6) (W := 0) (as := [.int i1]) (S' := []) d20_2 w51 w52 w53 rfl cw6 ar6 rk20_6_0 (by decide) rfl rfl (X_validProc_pay hg2) <| ans1 <| ?_
  refine ite_el hf (fun hc3 hf => ?_) (fun hc3 hf => ?_)
  · refine Runs.ifN d20_5 (teq hc3).2 <| ?_
    obtain rfl := Option.some.inj hf
    exact Runs.iconst d20_8 ci_m1 <| Runs.retI d20_9 rfl ⟨by decide, by decide⟩ ⟨rfl, rfl⟩
  · refine Runs.ifY (pc' := 10) d20_5 (feq hc3).2 (by decide) <| ?_
    refine Runs.iloadN d20_10 rfl <| ?_
    refine ite_el hf (fun hc4 hf => ?_) (fun hc4 hf => ?_)
    · refine Runs.ifY (pc' := 30) d20_11 (tlt hc4).1 (by decide) <| ?_
      obtain rfl := Option.some.inj hf
      exact Runs.iconst d20_30 ci_m1 <| Runs.retI d20_31 rfl ⟨by decide, by decide⟩ ⟨rfl, rfl⟩
    · refine Runs.ifN d20_11 (flt hc4).1 <| ?_
      refine Runs.iloadN d20_14 rfl <| Runs.aloadN d20_15 rfl <| Runs.getA d20_16 fA_8 w27 (by decide) <| Runs.iloadN d20_19 rfl <| ?_
      refine chk_el hf fun hi5 hf => ?_
      refine Runs.ialoadA d20_20 fA_8 (by decide) hi5 <| ?_
      refine ite_el hf (fun hc6 hf => ?_) (fun hc6 hf => ?_)
      · refine Runs.icN d20_21 (tlt hc6).2.1 <| ?_
        refine Runs.iloadN d20_24 rfl <| Runs.bipush d20_25 cb_64 <| ?_
        refine ite_el hf (fun hc7 hf => ?_) (fun hc7 hf => ?_)
        · refine Runs.icY (pc' := 32) d20_27 (tlt hc7).1 (by decide) <| ?_
          refine Runs.aloadN d20_32 rfl <| Runs.getA d20_33 fA_7 w25 (by decide) <| Runs.iloadN d20_36 rfl <| Runs.bipush d20_37 cb_64 <| Runs.imul d20_39 <| Runs.iloadN d20_40 rfl <| Runs.iadd d20_41 <| ?_
          refine chk_el hf fun hi8 hf => ?_
          obtain rfl := Option.some.inj hf
          exact Runs.ialoadA d20_42 fA_7 (by decide) hi8 <| Runs.retI d20_43 rfl ⟨by decide, by decide⟩ ⟨rfl, rfl⟩
        · refine Runs.icN d20_27 (flt hc7).1 <| ?_
          obtain rfl := Option.some.inj hf
          exact Runs.iconst d20_30 ci_m1 <| Runs.retI d20_31 rfl ⟨by decide, by decide⟩ ⟨rfl, rfl⟩
      · refine Runs.icY (pc' := 30) d20_21 (flt hc6).2.1 (by decide) <| ?_
        obtain rfl := Option.some.inj hf
        exact Runs.iconst d20_30 ci_m1 <| Runs.retI d20_31 rfl ⟨by decide, by decide⟩ ⟨rfl, rfl⟩
theorem X_deliveredAt_pay {C : Ctx} {top : Nat} {a : Nat} {H : List (Nat × Nat × Rec)} {ob : Rec} {res : Int32} {i1 : Int32} {i2 : Int32} (hf : X_deliveredAt ob i1 i2 = some res) : Pays C B20 [.ref a, .int i1, .int i2] (top, (a, 9, ob) :: H) (Ans (some (.int res)) (top, (a, 9, ob) :: H)) :=
  Pays.of pnK (Nat.le_of_ble_eq_true rfl) (P := [vr a, vi i1, vi i2]) 0 rfl (X_deliveredAt_p i1 i2 hf)
def X_delivered (ob : Rec) (i1 : Int32) (i2 : Int32) : Option (Int32) :=
  (X_validProc ob i1).bind fun r1 =>
  if r1 = (0 : Int32) then
    some (-1 : Int32)
  else
    (X_validProc ob i2).bind fun r4 =>
    if r4 = (0 : Int32) then
      some (-1 : Int32)
    else
      chk (64 : Int32) ((i1 * (8 : Int32)) + i2) <|
      some (gA ob 2 ((i1 * (8 : Int32)) + i2))
set_option maxRecDepth 65536 in
set_option maxHeartbeats 4000000 in
theorem X_delivered_p {C : Ctx} {top : Nat} {a : Nat} {H : List (Nat × Nat × Rec)} {ob : Rec} {res : Int32} (i1 : Int32) (i2 : Int32) (hf : X_delivered ob i1 i2 = some res) : Runs C B21 0 0 0 [vr a, vi i1, vi i2] [] (top, (a, 9, ob) :: H) (Ans (some (.int res)) (top, (a, 9, ob) :: H)) := by
  delta X_delivered at hf
  refine Runs.aloadN d21_0 rfl <| Runs.iloadN d21_1 rfl <| ?_
  refine bind_el hf fun r1 hg2 hf => ?_
  refine Runs.callP (N := B6) (W := 0) (as := [.int i1]) (S' := []) d21_2 w51 w52 w53 rfl cw6 ar6 rk21_6_0 (by decide) rfl rfl (X_validProc_pay hg2) <| ans1 <| ?_
  refine ite_el hf (fun hc3 hf => ?_) (fun hc3 hf => ?_)
  · refine Runs.ifY (pc' := 16) d21_5 (teq hc3).1 (by decide) <| ?_
    obtain rfl := Option.some.inj hf
    exact Runs.iconst d21_16 ci_m1 <| Runs.retI d21_17 rfl ⟨by decide, by decide⟩ ⟨rfl, rfl⟩
  · refine Runs.ifN d21_5 (feq hc3).1 <| ?_
    refine Runs.aloadN d21_8 rfl <| Runs.iloadN d21_9 rfl <| ?_
    refine bind_el hf fun r4 hg5 hf => ?_
    refine Runs.callP (N := B6) (W := 0) (as := [.int i2]) (S' := []) d21_10 w51 w52 w53 rfl cw6 ar6 rk21_6_0 (by decide) rfl rfl (X_validProc_pay hg5) <| ans1 <| ?_
    refine ite_el hf (fun hc6 hf => ?_) (fun hc6 hf => ?_)
    · refine Runs.ifN d21_13 (teq hc6).2 <| ?_
      obtain rfl := Option.some.inj hf
      exact Runs.iconst d21_16 ci_m1 <| Runs.retI d21_17 rfl ⟨by decide, by decide⟩ ⟨rfl, rfl⟩
    · refine Runs.ifY (pc' := 18) d21_13 (feq hc6).2 (by decide) <| ?_
      refine Runs.aloadN d21_18 rfl <| Runs.getA d21_19 fA_2 w15 (by decide) <| Runs.iloadN d21_22 rfl <| Runs.bipush d21_23 cb_8 <| Runs.imul d21_25 <| Runs.iloadN d21_26 rfl <| Runs.iadd d21_27 <| ?_
      refine chk_el hf fun hi7 hf => ?_
      obtain rfl := Option.some.inj hf
      exact Runs.ialoadA d21_28 fA_2 (by decide) hi7 <| Runs.retI d21_29 rfl ⟨by decide, by decide⟩ ⟨rfl, rfl⟩
theorem X_delivered_pay {C : Ctx} {top : Nat} {a : Nat} {H : List (Nat × Nat × Rec)} {ob : Rec} {res : Int32} {i1 : Int32} {i2 : Int32} (hf : X_delivered ob i1 i2 = some res) : Pays C B21 [.ref a, .int i1, .int i2] (top, (a, 9, ob) :: H) (Ans (some (.int res)) (top, (a, 9, ob) :: H)) :=
  Pays.of pnK (Nat.le_of_ble_eq_true rfl) (P := [vr a, vi i1, vi i2]) 0 rfl (X_delivered_p i1 i2 hf)
def X_known (ob : Rec) (i1 : Int32) (i2 : Int32) (i3 : Int32) : Option (Int32) :=
  (X_validProc ob i1).bind fun r1 =>
  if r1 = (0 : Int32) then
    some (-1 : Int32)
  else
    (X_validProc ob i2).bind fun r4 =>
    if r4 = (0 : Int32) then
      some (-1 : Int32)
    else
      (X_validProc ob i3).bind fun r7 =>
      if r7 = (0 : Int32) then
        some (-1 : Int32)
      else
        (X_knownIndex ob i1 i2 i3).bind fun r10 =>
        chk (512 : Int32) r10 <|
        some (gA ob 6 r10)
set_option maxRecDepth 65536 in
set_option maxHeartbeats 4000000 in
theorem X_known_p {C : Ctx} {top : Nat} {a : Nat} {H : List (Nat × Nat × Rec)} {ob : Rec} {res : Int32} (i1 : Int32) (i2 : Int32) (i3 : Int32) (hf : X_known ob i1 i2 i3 = some res) : Runs C B22 0 0 0 [vr a, vi i1, vi i2, vi i3, vn] [] (top, (a, 9, ob) :: H) (Ans (some (.int res)) (top, (a, 9, ob) :: H)) := by
  delta X_known at hf
  refine Runs.aloadN d22_0 rfl <| Runs.iloadN d22_1 rfl <| ?_
  refine bind_el hf fun r1 hg2 hf => ?_
  refine Runs.callP (N := B6) (W := 0) (as := [.int i1]) (S' := []) d22_2 w51 w52 w53 rfl cw6 ar6 rk22_6_0 (by decide) rfl rfl (X_validProc_pay hg2) <| ans1 <| ?_
  refine ite_el hf (fun hc3 hf => ?_) (fun hc3 hf => ?_)
  · refine Runs.ifY (pc' := 24) d22_5 (teq hc3).1 (by decide) <| ?_
    obtain rfl := Option.some.inj hf
    exact Runs.iconst d22_24 ci_m1 <| Runs.retI d22_25 rfl ⟨by decide, by decide⟩ ⟨rfl, rfl⟩
  · refine Runs.ifN d22_5 (feq hc3).1 <| ?_
    refine Runs.aloadN d22_8 rfl <| Runs.iloadN d22_9 rfl <| ?_
    refine bind_el hf fun r4 hg5 hf => ?_
    refine Runs.callP (N := B6) (W := 0) (as := [.int i2]) (S' := []) d22_10 w51 w52 w53 rfl cw6 ar6 rk22_6_0 (by decide) rfl rfl (X_validProc_pay hg5) <| ans1 <| ?_
    refine ite_el hf (fun hc6 hf => ?_) (fun hc6 hf => ?_)
    · refine Runs.ifY (pc' := 24) d22_13 (teq hc6).1 (by decide) <| ?_
      obtain rfl := Option.some.inj hf
      exact Runs.iconst d22_24 ci_m1 <| Runs.retI d22_25 rfl ⟨by decide, by decide⟩ ⟨rfl, rfl⟩
    · refine Runs.ifN d22_13 (feq hc6).1 <| ?_
      refine Runs.aloadN d22_16 rfl <| Runs.iloadN d22_17 rfl <| ?_
      refine bind_el hf fun r7 hg8 hf => ?_
      refine Runs.callP (N := B6) (W := 0) (as := [.int i3]) (S' := []) d22_18 w51 w52 w53 rfl cw6 ar6 rk22_6_0 (by decide) rfl rfl (X_validProc_pay hg8) <| ans1 <| ?_
      refine ite_el hf (fun hc9 hf => ?_) (fun hc9 hf => ?_)
      · refine Runs.ifN d22_21 (teq hc9).2 <| ?_
        obtain rfl := Option.some.inj hf
        exact Runs.iconst d22_24 ci_m1 <| Runs.retI d22_25 rfl ⟨by decide, by decide⟩ ⟨rfl, rfl⟩
      · refine Runs.ifY (pc' := 26) d22_21 (feq hc9).2 (by decide) <| ?_
        refine Runs.aloadN d22_26 rfl <| Runs.iloadN d22_27 rfl <| Runs.iloadN d22_28 rfl <| Runs.iloadN d22_29 rfl <| ?_
        refine bind_el hf fun r10 hg11 hf => ?_
        refine Runs.callP (N := B10) (W := 0) (as := [.int i1, .int i2, .int i3]) (S' := []) d22_30 w67 w68 w69 rfl cw10 ar10 rk22_10_0 (by decide) rfl rfl (X_knownIndex_pay hg11) <| ans1 <| Runs.istore (P' := [vr a, vi i1, vi i2, vi i3, vi r10]) d22_33 (by decide) rfl <| Runs.aloadN d22_35 rfl <| Runs.getA d22_36 fA_6 w23 (by decide) <| Runs.iload d22_39 rfl <| ?_
        refine chk_el hf fun hi12 hf => ?_
        obtain rfl := Option.some.inj hf
        exact Runs.ialoadA d22_41 fA_6 (by decide) hi12 <| Runs.retI d22_42 rfl ⟨by decide, by decide⟩ ⟨rfl, rfl⟩
theorem X_known_pay {C : Ctx} {top : Nat} {a : Nat} {H : List (Nat × Nat × Rec)} {ob : Rec} {res : Int32} {i1 : Int32} {i2 : Int32} {i3 : Int32} (hf : X_known ob i1 i2 i3 = some res) : Pays C B22 [.ref a, .int i1, .int i2, .int i3] (top, (a, 9, ob) :: H) (Ans (some (.int res)) (top, (a, 9, ob) :: H)) :=
  Pays.of pnK (Nat.le_of_ble_eq_true rfl) (P := [vr a, vi i1, vi i2, vi i3, vn]) 1 rfl (X_known_p i1 i2 i3 hf)
def X_copies (ob : Rec) (i1 : Int32) (i2 : Int32) (i3 : Int32) : Option (Int32) :=
  (X_exists ob i1 i2).bind fun r1 =>
  if r1 = (0 : Int32) then
    some (-1 : Int32)
  else
    (X_validProc ob i3).bind fun r4 =>
    if r4 = (0 : Int32) then
      some (-1 : Int32)
    else
      (X_copyIndex ob i1 i2 i3).bind fun r7 =>
      chk (512 : Int32) r7 <|
      some (gA ob 5 r7)
set_option maxRecDepth 65536 in
set_option maxHeartbeats 4000000 in
theorem X_copies_p {C : Ctx} {top : Nat} {a : Nat} {H : List (Nat × Nat × Rec)} {ob : Rec} {res : Int32} (i1 : Int32) (i2 : Int32) (i3 : Int32) (hf : X_copies ob i1 i2 i3 = some res) : Runs C B23 0 0 0 [vr a, vi i1, vi i2, vi i3, vn] [] (top, (a, 9, ob) :: H) (Ans (some (.int res)) (top, (a, 9, ob) :: H)) := by
  delta X_copies at hf
  refine Runs.aloadN d23_0 rfl <| Runs.iloadN d23_1 rfl <| Runs.iloadN d23_2 rfl <| ?_
  refine bind_el hf fun r1 hg2 hf => ?_
  refine Runs.callP (N := B4) (W := 0) (as := [.int i1, .int i2]) (S' := []) d23_3 w42 w43 w44 rfl cw4 ar4 rk23_4_0 (by decide) rfl rfl (X_exists_pay hg2) <| ans1 <| ?_
  refine ite_el hf (fun hc3 hf => ?_) (fun hc3 hf => ?_)
  · refine Runs.ifY (pc' := 17) d23_6 (teq hc3).1 (by decide) <| ?_
    obtain rfl := Option.some.inj hf
    exact Runs.iconst d23_17 ci_m1 <| Runs.retI d23_18 rfl ⟨by decide, by decide⟩ ⟨rfl, rfl⟩
  · refine Runs.ifN d23_6 (feq hc3).1 <| ?_
    refine Runs.aloadN d23_9 rfl <| Runs.iloadN d23_10 rfl <| ?_
    refine bind_el hf fun r4 hg5 hf => ?_
    refine Runs.callP (N := B6) (W := 0) (as := [.int i3]) (S' := []) d23_11 w51 w52 w53 rfl cw6 ar6 rk23_6_0 (by decide) rfl rfl (X_validProc_pay hg5) <| ans1 <| ?_
    refine ite_el hf (fun hc6 hf => ?_) (fun hc6 hf => ?_)
    · refine Runs.ifN d23_14 (teq hc6).2 <| ?_
      obtain rfl := Option.some.inj hf
      exact Runs.iconst d23_17 ci_m1 <| Runs.retI d23_18 rfl ⟨by decide, by decide⟩ ⟨rfl, rfl⟩
    · refine Runs.ifY (pc' := 19) d23_14 (feq hc6).2 (by decide) <| ?_
      refine Runs.aloadN d23_19 rfl <| Runs.iloadN d23_20 rfl <| Runs.iloadN d23_21 rfl <| Runs.iloadN d23_22 rfl <| ?_
      refine bind_el hf fun r7 hg8 hf => ?_
      refine Runs.callP (N := B13) (W := 0) (as := [.int i1, .int i2, .int i3]) (S' := []) d23_23 w81 w82 w83 rfl cw13 ar13 rk23_13_0 (by decide) rfl rfl (X_copyIndex_pay hg8) <| ans1 <| Runs.istore (P' := [vr a, vi i1, vi i2, vi i3, vi r7]) d23_26 (by decide) rfl <| Runs.aloadN d23_28 rfl <| Runs.getA d23_29 fA_5 w21 (by decide) <| Runs.iload d23_32 rfl <| ?_
      refine chk_el hf fun hi9 hf => ?_
      obtain rfl := Option.some.inj hf
      exact Runs.ialoadA d23_34 fA_5 (by decide) hi9 <| Runs.retI d23_35 rfl ⟨by decide, by decide⟩ ⟨rfl, rfl⟩
theorem X_copies_pay {C : Ctx} {top : Nat} {a : Nat} {H : List (Nat × Nat × Rec)} {ob : Rec} {res : Int32} {i1 : Int32} {i2 : Int32} {i3 : Int32} (hf : X_copies ob i1 i2 i3 = some res) : Pays C B23 [.ref a, .int i1, .int i2, .int i3] (top, (a, 9, ob) :: H) (Ans (some (.int res)) (top, (a, 9, ob) :: H)) :=
  Pays.of pnK (Nat.le_of_ble_eq_true rfl) (P := [vr a, vi i1, vi i2, vi i3, vn]) 1 rfl (X_copies_p i1 i2 i3 hf)
def X_stamp (ob : Rec) (i1 : Int32) (i2 : Int32) (i3 : Int32) : Option (Int32) :=
  (X_exists ob i1 i2).bind fun r1 =>
  if r1 = (0 : Int32) then
    some (-1 : Int32)
  else
    (X_validProc ob i3).bind fun r4 =>
    if r4 = (0 : Int32) then
      some (-1 : Int32)
    else
      (X_msgIndex ob i1 i2).bind fun r7 =>
      chk (512 : Int32) ((r7 * (8 : Int32)) + i3) <|
      some (gA ob 4 ((r7 * (8 : Int32)) + i3))
set_option maxRecDepth 65536 in
set_option maxHeartbeats 4000000 in
theorem X_stamp_p {C : Ctx} {top : Nat} {a : Nat} {H : List (Nat × Nat × Rec)} {ob : Rec} {res : Int32} (i1 : Int32) (i2 : Int32) (i3 : Int32) (hf : X_stamp ob i1 i2 i3 = some res) : Runs C B24 0 0 0 [vr a, vi i1, vi i2, vi i3, vn] [] (top, (a, 9, ob) :: H) (Ans (some (.int res)) (top, (a, 9, ob) :: H)) := by
  delta X_stamp at hf
  refine Runs.aloadN d24_0 rfl <| Runs.iloadN d24_1 rfl <| Runs.iloadN d24_2 rfl <| ?_
  refine bind_el hf fun r1 hg2 hf => ?_
  refine Runs.callP (N := B4) (W := 0) (as := [.int i1, .int i2]) (S' := []) d24_3 w42 w43 w44 rfl cw4 ar4 rk24_4_0 (by decide) rfl rfl (X_exists_pay hg2) <| ans1 <| ?_
  refine ite_el hf (fun hc3 hf => ?_) (fun hc3 hf => ?_)
  · refine Runs.ifY (pc' := 17) d24_6 (teq hc3).1 (by decide) <| ?_
    obtain rfl := Option.some.inj hf
    exact Runs.iconst d24_17 ci_m1 <| Runs.retI d24_18 rfl ⟨by decide, by decide⟩ ⟨rfl, rfl⟩
  · refine Runs.ifN d24_6 (feq hc3).1 <| ?_
    refine Runs.aloadN d24_9 rfl <| Runs.iloadN d24_10 rfl <| ?_
    refine bind_el hf fun r4 hg5 hf => ?_
    refine Runs.callP (N := B6) (W := 0) (as := [.int i3]) (S' := []) d24_11 w51 w52 w53 rfl cw6 ar6 rk24_6_0 (by decide) rfl rfl (X_validProc_pay hg5) <| ans1 <| ?_
    refine ite_el hf (fun hc6 hf => ?_) (fun hc6 hf => ?_)
    · refine Runs.ifN d24_14 (teq hc6).2 <| ?_
      obtain rfl := Option.some.inj hf
      exact Runs.iconst d24_17 ci_m1 <| Runs.retI d24_18 rfl ⟨by decide, by decide⟩ ⟨rfl, rfl⟩
    · refine Runs.ifY (pc' := 19) d24_14 (feq hc6).2 (by decide) <| ?_
      refine Runs.aloadN d24_19 rfl <| Runs.iloadN d24_20 rfl <| Runs.iloadN d24_21 rfl <| ?_
      refine bind_el hf fun r7 hg8 hf => ?_
      refine Runs.callP (N := B7) (W := 0) (as := [.int i1, .int i2]) (S' := []) d24_22 w55 w56 w57 rfl cw7 ar7 rk24_7_0 (by decide) rfl rfl (X_msgIndex_pay hg8) <| ans1 <| Runs.istore (P' := [vr a, vi i1, vi i2, vi i3, vi r7]) d24_25 (by decide) rfl <| Runs.aloadN d24_27 rfl <| Runs.getA d24_28 fA_4 w19 (by decide) <| Runs.iload d24_31 rfl <| Runs.bipush d24_33 cb_8 <| Runs.imul d24_35 <| Runs.iloadN d24_36 rfl <| Runs.iadd d24_37 <| ?_
      refine chk_el hf fun hi9 hf => ?_
      obtain rfl := Option.some.inj hf
      exact Runs.ialoadA d24_38 fA_4 (by decide) hi9 <| Runs.retI d24_39 rfl ⟨by decide, by decide⟩ ⟨rfl, rfl⟩
theorem X_stamp_pay {C : Ctx} {top : Nat} {a : Nat} {H : List (Nat × Nat × Rec)} {ob : Rec} {res : Int32} {i1 : Int32} {i2 : Int32} {i3 : Int32} (hf : X_stamp ob i1 i2 i3 = some res) : Pays C B24 [.ref a, .int i1, .int i2, .int i3] (top, (a, 9, ob) :: H) (Ans (some (.int res)) (top, (a, 9, ob) :: H)) :=
  Pays.of pnK (Nat.le_of_ble_eq_true rfl) (P := [vr a, vi i1, vi i2, vi i3, vn]) 1 rfl (X_stamp_p i1 i2 i3 hf)
def L_same_w134 (NF : Nat) (o0 : Rec) (o1 : Rec) (k2 : Int32 → Option (Int32)) (k71 : Int32 → Int32 → Option (Int32)) (k134 : Int32 → Int32 → Int32 → Option (Int32)) (i2 : Int32) (i3 : Int32) (i4 : Int32) : Option (Int32) :=
  if (8 : Int32) < i4 then
    k71 i2 (i3 + (1 : Int32))
  else
    (X_state o0 i2 i3 i4).bind fun r31 =>
    (X_state o1 i2 i3 i4).bind fun r33 =>
    if r31 = r33 then
      (X_copies o0 i3 i4 i2).bind fun r36 =>
      (X_copies o1 i3 i4 i2).bind fun r38 =>
      if r36 = r38 then
        (X_stamp o0 i3 i4 i2).bind fun r41 =>
        (X_stamp o1 i3 i4 i2).bind fun r43 =>
        if r41 = r43 then
          k134 i2 i3 (i4 + (1 : Int32))
        else
          some (0 : Int32)
      else
        some (0 : Int32)
    else
      some (0 : Int32)
def L_same_l134 (NF : Nat) (o0 : Rec) (o1 : Rec) (k2 : Int32 → Option (Int32)) (k71 : Int32 → Int32 → Option (Int32)) : Nat → Int32 → Int32 → Int32 → Option (Int32)
  | 0, _, _, _ => none
  | n + 1, i2, i3, i4 => L_same_w134 NF o0 o1 k2 k71 (L_same_l134 NF o0 o1 k2 k71 n) i2 i3 i4
set_option maxRecDepth 65536 in
set_option maxHeartbeats 4000000 in
theorem L_same_w134_p {C : Ctx} {top : Nat} {a0 : Nat} {a1 : Nat} {H : List (Nat × Nat × Rec)} {o0 : Rec} {o1 : Rec} {res : Int32} {NF : Nat} (k2 : Int32 → Option (Int32)) (hk2 : ∀ (i2 : Int32), k2 i2 = some res → Runs C B18 0 0 2 [vr a0, vr a1, vi i2, vn, vn] [] (top, (a0, 9, o0) :: (a1, 9, o1) :: H) (Ans (some (.int res)) (top, (a0, 9, o0) :: (a1, 9, o1) :: H))) (k71 : Int32 → Int32 → Option (Int32)) (hk71 : ∀ (i2 : Int32) (i3 : Int32), k71 i2 i3 = some res → Runs C B18 0 0 71 [vr a0, vr a1, vi i2, vi i3, vn] [] (top, (a0, 9, o0) :: (a1, 9, o1) :: H) (Ans (some (.int res)) (top, (a0, 9, o0) :: (a1, 9, o1) :: H))) (k134 : Int32 → Int32 → Int32 → Option (Int32)) (hk134 : ∀ (i2 : Int32) (i3 : Int32) (i4 : Int32), k134 i2 i3 i4 = some res → Runs C B18 0 0 134 [vr a0, vr a1, vi i2, vi i3, vi i4] [] (top, (a0, 9, o0) :: (a1, 9, o1) :: H) (Ans (some (.int res)) (top, (a0, 9, o0) :: (a1, 9, o1) :: H))) (i2 : Int32) (i3 : Int32) (i4 : Int32) (hf : L_same_w134 NF o0 o1 k2 k71 k134 i2 i3 i4 = some res) : Runs C B18 0 0 134 [vr a0, vr a1, vi i2, vi i3, vi i4] [] (top, (a0, 9, o0) :: (a1, 9, o1) :: H) (Ans (some (.int res)) (top, (a0, 9, o0) :: (a1, 9, o1) :: H)) := by
  delta L_same_w134 at hf
  refine Runs.iload d18_134 rfl <| Runs.bipush d18_136 cb_8 <| ?_
  refine ite_el hf (fun hc30 hf => ?_) (fun hc30 hf => ?_)
  · refine Runs.icY (pc' := 210) d18_138 (tlt hc30).2.2.1 (by decide) <| ?_
    exact Runs.iinc (P' := [vr a0, vr a1, vi i2, vi (i3 + (1 : Int32)), vi i4]) d18_210 ci_1 rfl (by decide) rfl <| Runs.goto (pc' := 71) d18_213 (by decide) <| Runs.forget [true, true, true, true, false] rfl <| hk71 i2 (i3 + (1 : Int32)) hf
  · refine Runs.icN d18_138 (flt hc30).2.2.1 <| ?_
    refine Runs.aloadN d18_141 rfl <| Runs.iloadN d18_142 rfl <| Runs.iloadN d18_143 rfl <| Runs.iload d18_144 rfl <| ?_
    refine bind_el hf fun r31 hg32 hf => ?_
    refine Runs.callV (N := B16) (W := 0) (as := [.int i2, .int i3, .int i4]) (S' := []) d18_146 w93 w94 w95 w96 cw16 ar16 rk18_16_0 (by decide) rfl rfl (X_state_pay hg32) <| ans1 <| Runs.aloadN d18_149 rfl <| Runs.iloadN d18_150 rfl <| Runs.iloadN d18_151 rfl <| Runs.iload d18_152 rfl <| ?_
    refine bind_el hf fun r33 hg34 hf => ?_
    refine Runs.swap <| Runs.callV (N := B16) (W := 1) (as := [.int i2, .int i3, .int i4]) (S' := [.int r31]) d18_154 w93 w94 w95 w96 cw16 ar16 rk18_16_1 (by decide) rfl rfl (X_state_pay hg34) <| ans1 <| Runs.swap <| ?_
    refine ite_el hf (fun hc35 hf => ?_) (fun hc35 hf => ?_)
    · refine Runs.icY (pc' := 162) d18_157 (teq hc35).1 (by decide) <| ?_
      refine Runs.aloadN d18_162 rfl <| Runs.iloadN d18_163 rfl <| Runs.iload d18_164 rfl <| Runs.iloadN d18_166 rfl <| ?_
      refine bind_el hf fun r36 hg37 hf => ?_
      refine Runs.callV (N := B23) (W := 0) (as := [.int i3, .int i4, .int i2]) (S' := []) d18_167 w126 w127 w128 w129 cw23 ar23 rk18_23_0 (by decide) rfl rfl (X_copies_pay hg37) <| ans1 <| Runs.aloadN d18_170 rfl <| Runs.iloadN d18_171 rfl <| Runs.iload d18_172 rfl <| Runs.iloadN d18_174 rfl <| ?_
      refine bind_el hf fun r38 hg39 hf => ?_
      refine Runs.swap <| Runs.callV (N := B23) (W := 1) (as := [.int i3, .int i4, .int i2]) (S' := [.int r36]) d18_175 w126 w127 w128 w129 cw23 ar23 rk18_23_1 (by decide) rfl rfl (X_copies_pay hg39) <| ans1 <| Runs.swap <| ?_
      refine ite_el hf (fun hc40 hf => ?_) (fun hc40 hf => ?_)
      · refine Runs.icY (pc' := 183) d18_178 (teq hc40).1 (by decide) <| ?_
        refine Runs.aloadN d18_183 rfl <| Runs.iloadN d18_184 rfl <| Runs.iload d18_185 rfl <| Runs.iloadN d18_187 rfl <| ?_
        refine bind_el hf fun r41 hg42 hf => ?_
        refine Runs.callV (N := B24) (W := 0) (as := [.int i3, .int i4, .int i2]) (S' := []) d18_188 w131 w132 w133 w134 cw24 ar24 rk18_24_0 (by decide) rfl rfl (X_stamp_pay hg42) <| ans1 <| Runs.aloadN d18_191 rfl <| Runs.iloadN d18_192 rfl <| Runs.iload d18_193 rfl <| Runs.iloadN d18_195 rfl <| ?_
        refine bind_el hf fun r43 hg44 hf => ?_
        refine Runs.swap <| Runs.callV (N := B24) (W := 1) (as := [.int i3, .int i4, .int i2]) (S' := [.int r41]) d18_196 w131 w132 w133 w134 cw24 ar24 rk18_24_1 (by decide) rfl rfl (X_stamp_pay hg44) <| ans1 <| Runs.swap <| ?_
        refine ite_el hf (fun hc45 hf => ?_) (fun hc45 hf => ?_)
        · refine Runs.icY (pc' := 204) d18_199 (teq hc45).1 (by decide) <| ?_
          exact Runs.iinc (P' := [vr a0, vr a1, vi i2, vi i3, vi (i4 + (1 : Int32))]) d18_204 ci_1 rfl (by decide) rfl <| Runs.goto (pc' := 134) d18_207 (by decide) <| hk134 i2 i3 (i4 + (1 : Int32)) hf
        · refine Runs.icN d18_199 (feq hc45).1 <| ?_
          obtain rfl := Option.some.inj hf
          exact Runs.iconst d18_202 ci_0 <| Runs.retZ (y := (0 : Int32)) d18_203 rfl ⟨by decide, by decide⟩ rfl ⟨rfl, rfl⟩
      · refine Runs.icN d18_178 (feq hc40).1 <| ?_
        obtain rfl := Option.some.inj hf
        exact Runs.iconst d18_181 ci_0 <| Runs.retZ (y := (0 : Int32)) d18_182 rfl ⟨by decide, by decide⟩ rfl ⟨rfl, rfl⟩
    · refine Runs.icN d18_157 (feq hc35).1 <| ?_
      obtain rfl := Option.some.inj hf
      exact Runs.iconst d18_160 ci_0 <| Runs.retZ (y := (0 : Int32)) d18_161 rfl ⟨by decide, by decide⟩ rfl ⟨rfl, rfl⟩
theorem L_same_l134_p {C : Ctx} {top : Nat} {a0 : Nat} {a1 : Nat} {H : List (Nat × Nat × Rec)} {o0 : Rec} {o1 : Rec} {res : Int32} {NF : Nat} (k2 : Int32 → Option (Int32)) (hk2 : ∀ (i2 : Int32), k2 i2 = some res → Runs C B18 0 0 2 [vr a0, vr a1, vi i2, vn, vn] [] (top, (a0, 9, o0) :: (a1, 9, o1) :: H) (Ans (some (.int res)) (top, (a0, 9, o0) :: (a1, 9, o1) :: H))) (k71 : Int32 → Int32 → Option (Int32)) (hk71 : ∀ (i2 : Int32) (i3 : Int32), k71 i2 i3 = some res → Runs C B18 0 0 71 [vr a0, vr a1, vi i2, vi i3, vn] [] (top, (a0, 9, o0) :: (a1, 9, o1) :: H) (Ans (some (.int res)) (top, (a0, 9, o0) :: (a1, 9, o1) :: H))) (n : Nat) (i2 : Int32) (i3 : Int32) (i4 : Int32) (hf : L_same_l134 NF o0 o1 k2 k71 n i2 i3 i4 = some res) : Runs C B18 0 0 134 [vr a0, vr a1, vi i2, vi i3, vi i4] [] (top, (a0, 9, o0) :: (a1, 9, o1) :: H) (Ans (some (.int res)) (top, (a0, 9, o0) :: (a1, 9, o1) :: H)) := by
  induction n generalizing i2 i3 i4 with
  | zero => cases (show (none : Option (Int32)) = some res from hf)
  | succ n ih => exact L_same_w134_p k2 hk2 k71 hk71 (L_same_l134 NF o0 o1 k2 k71 n) (fun i2 i3 i4 h => ih _ _ _ h) i2 i3 i4 hf
def L_same_w97 (NF : Nat) (o0 : Rec) (o1 : Rec) (k2 : Int32 → Option (Int32)) (k71 : Int32 → Int32 → Option (Int32)) (k97 : Int32 → Int32 → Int32 → Option (Int32)) (i2 : Int32) (i3 : Int32) (i4 : Int32) : Option (Int32) :=
  if i4 < (8 : Int32) then
    (X_known o0 i2 i4 i3).bind fun r25 =>
    (X_known o1 i2 i4 i3).bind fun r27 =>
    if r25 = r27 then
      k97 i2 i3 (i4 + (1 : Int32))
    else
      some (0 : Int32)
  else
    L_same_l134 NF o0 o1 k2 k71 NF i2 i3 (1 : Int32)
def L_same_l97 (NF : Nat) (o0 : Rec) (o1 : Rec) (k2 : Int32 → Option (Int32)) (k71 : Int32 → Int32 → Option (Int32)) : Nat → Int32 → Int32 → Int32 → Option (Int32)
  | 0, _, _, _ => none
  | n + 1, i2, i3, i4 => L_same_w97 NF o0 o1 k2 k71 (L_same_l97 NF o0 o1 k2 k71 n) i2 i3 i4
set_option maxRecDepth 65536 in
set_option maxHeartbeats 4000000 in
theorem L_same_w97_p {C : Ctx} {top : Nat} {a0 : Nat} {a1 : Nat} {H : List (Nat × Nat × Rec)} {o0 : Rec} {o1 : Rec} {res : Int32} {NF : Nat} (k2 : Int32 → Option (Int32)) (hk2 : ∀ (i2 : Int32), k2 i2 = some res → Runs C B18 0 0 2 [vr a0, vr a1, vi i2, vn, vn] [] (top, (a0, 9, o0) :: (a1, 9, o1) :: H) (Ans (some (.int res)) (top, (a0, 9, o0) :: (a1, 9, o1) :: H))) (k71 : Int32 → Int32 → Option (Int32)) (hk71 : ∀ (i2 : Int32) (i3 : Int32), k71 i2 i3 = some res → Runs C B18 0 0 71 [vr a0, vr a1, vi i2, vi i3, vn] [] (top, (a0, 9, o0) :: (a1, 9, o1) :: H) (Ans (some (.int res)) (top, (a0, 9, o0) :: (a1, 9, o1) :: H))) (k97 : Int32 → Int32 → Int32 → Option (Int32)) (hk97 : ∀ (i2 : Int32) (i3 : Int32) (i4 : Int32), k97 i2 i3 i4 = some res → Runs C B18 0 0 97 [vr a0, vr a1, vi i2, vi i3, vi i4] [] (top, (a0, 9, o0) :: (a1, 9, o1) :: H) (Ans (some (.int res)) (top, (a0, 9, o0) :: (a1, 9, o1) :: H))) (i2 : Int32) (i3 : Int32) (i4 : Int32) (hf : L_same_w97 NF o0 o1 k2 k71 k97 i2 i3 i4 = some res) : Runs C B18 0 0 97 [vr a0, vr a1, vi i2, vi i3, vi i4] [] (top, (a0, 9, o0) :: (a1, 9, o1) :: H) (Ans (some (.int res)) (top, (a0, 9, o0) :: (a1, 9, o1) :: H)) := by
  delta L_same_w97 at hf
  refine Runs.iload d18_97 rfl <| Runs.bipush d18_99 cb_8 <| ?_
  refine ite_el hf (fun hc24 hf => ?_) (fun hc24 hf => ?_)
  · refine Runs.icN d18_101 (tlt hc24).2.1 <| ?_
    refine Runs.aloadN d18_104 rfl <| Runs.iloadN d18_105 rfl <| Runs.iload d18_106 rfl <| Runs.iloadN d18_108 rfl <| ?_
    refine bind_el hf fun r25 hg26 hf => ?_
    refine Runs.callV (N := B22) (W := 0) (as := [.int i2, .int i4, .int i3]) (S' := []) d18_109 w121 w122 w123 w124 cw22 ar22 rk18_22_0 (by decide) rfl rfl (X_known_pay hg26) <| ans1 <| Runs.aloadN d18_112 rfl <| Runs.iloadN d18_113 rfl <| Runs.iload d18_114 rfl <| Runs.iloadN d18_116 rfl <| ?_
    refine bind_el hf fun r27 hg28 hf => ?_
    refine Runs.swap <| Runs.callV (N := B22) (W := 1) (as := [.int i2, .int i4, .int i3]) (S' := [.int r25]) d18_117 w121 w122 w123 w124 cw22 ar22 rk18_22_1 (by decide) rfl rfl (X_known_pay hg28) <| ans1 <| Runs.swap <| ?_
    refine ite_el hf (fun hc29 hf => ?_) (fun hc29 hf => ?_)
    · refine Runs.icY (pc' := 125) d18_120 (teq hc29).1 (by decide) <| ?_
      exact Runs.iinc (P' := [vr a0, vr a1, vi i2, vi i3, vi (i4 + (1 : Int32))]) d18_125 ci_1 rfl (by decide) rfl <| Runs.goto (pc' := 97) d18_128 (by decide) <| hk97 i2 i3 (i4 + (1 : Int32)) hf
    · refine Runs.icN d18_120 (feq hc29).1 <| ?_
      obtain rfl := Option.some.inj hf
      exact Runs.iconst d18_123 ci_0 <| Runs.retZ (y := (0 : Int32)) d18_124 rfl ⟨by decide, by decide⟩ rfl ⟨rfl, rfl⟩
  · refine Runs.icY (pc' := 131) d18_101 (flt hc24).2.1 (by decide) <| ?_
    exact Runs.iconst d18_131 ci_1 <| Runs.istore (P' := [vr a0, vr a1, vi i2, vi i3, vi (1 : Int32)]) d18_132 (by decide) rfl <| L_same_l134_p k2 hk2 k71 hk71 NF i2 i3 (1 : Int32) hf
theorem L_same_l97_p {C : Ctx} {top : Nat} {a0 : Nat} {a1 : Nat} {H : List (Nat × Nat × Rec)} {o0 : Rec} {o1 : Rec} {res : Int32} {NF : Nat} (k2 : Int32 → Option (Int32)) (hk2 : ∀ (i2 : Int32), k2 i2 = some res → Runs C B18 0 0 2 [vr a0, vr a1, vi i2, vn, vn] [] (top, (a0, 9, o0) :: (a1, 9, o1) :: H) (Ans (some (.int res)) (top, (a0, 9, o0) :: (a1, 9, o1) :: H))) (k71 : Int32 → Int32 → Option (Int32)) (hk71 : ∀ (i2 : Int32) (i3 : Int32), k71 i2 i3 = some res → Runs C B18 0 0 71 [vr a0, vr a1, vi i2, vi i3, vn] [] (top, (a0, 9, o0) :: (a1, 9, o1) :: H) (Ans (some (.int res)) (top, (a0, 9, o0) :: (a1, 9, o1) :: H))) (n : Nat) (i2 : Int32) (i3 : Int32) (i4 : Int32) (hf : L_same_l97 NF o0 o1 k2 k71 n i2 i3 i4 = some res) : Runs C B18 0 0 97 [vr a0, vr a1, vi i2, vi i3, vi i4] [] (top, (a0, 9, o0) :: (a1, 9, o1) :: H) (Ans (some (.int res)) (top, (a0, 9, o0) :: (a1, 9, o1) :: H)) := by
  induction n generalizing i2 i3 i4 with
  | zero => cases (show (none : Option (Int32)) = some res from hf)
  | succ n ih => exact L_same_w97_p k2 hk2 k71 hk71 (L_same_l97 NF o0 o1 k2 k71 n) (fun i2 i3 i4 h => ih _ _ _ h) i2 i3 i4 hf
def L_same_w71 (NF : Nat) (o0 : Rec) (o1 : Rec) (k2 : Int32 → Option (Int32)) (k71 : Int32 → Int32 → Option (Int32)) (i2 : Int32) (i3 : Int32) : Option (Int32) :=
  if i3 < (8 : Int32) then
    (X_delivered o0 i2 i3).bind fun r19 =>
    (X_delivered o1 i2 i3).bind fun r21 =>
    if r19 = r21 then
      L_same_l97 NF o0 o1 k2 k71 NF i2 i3 (0 : Int32)
    else
      some (0 : Int32)
  else
    k2 (i2 + (1 : Int32))
def L_same_l71 (NF : Nat) (o0 : Rec) (o1 : Rec) (k2 : Int32 → Option (Int32)) : Nat → Int32 → Int32 → Option (Int32)
  | 0, _, _ => none
  | n + 1, i2, i3 => L_same_w71 NF o0 o1 k2 (L_same_l71 NF o0 o1 k2 n) i2 i3
set_option maxRecDepth 65536 in
set_option maxHeartbeats 4000000 in
theorem L_same_w71_p {C : Ctx} {top : Nat} {a0 : Nat} {a1 : Nat} {H : List (Nat × Nat × Rec)} {o0 : Rec} {o1 : Rec} {res : Int32} {NF : Nat} (k2 : Int32 → Option (Int32)) (hk2 : ∀ (i2 : Int32), k2 i2 = some res → Runs C B18 0 0 2 [vr a0, vr a1, vi i2, vn, vn] [] (top, (a0, 9, o0) :: (a1, 9, o1) :: H) (Ans (some (.int res)) (top, (a0, 9, o0) :: (a1, 9, o1) :: H))) (k71 : Int32 → Int32 → Option (Int32)) (hk71 : ∀ (i2 : Int32) (i3 : Int32), k71 i2 i3 = some res → Runs C B18 0 0 71 [vr a0, vr a1, vi i2, vi i3, vn] [] (top, (a0, 9, o0) :: (a1, 9, o1) :: H) (Ans (some (.int res)) (top, (a0, 9, o0) :: (a1, 9, o1) :: H))) (i2 : Int32) (i3 : Int32) (hf : L_same_w71 NF o0 o1 k2 k71 i2 i3 = some res) : Runs C B18 0 0 71 [vr a0, vr a1, vi i2, vi i3, vn] [] (top, (a0, 9, o0) :: (a1, 9, o1) :: H) (Ans (some (.int res)) (top, (a0, 9, o0) :: (a1, 9, o1) :: H)) := by
  delta L_same_w71 at hf
  refine Runs.iloadN d18_71 rfl <| Runs.bipush d18_72 cb_8 <| ?_
  refine ite_el hf (fun hc18 hf => ?_) (fun hc18 hf => ?_)
  · refine Runs.icN d18_74 (tlt hc18).2.1 <| ?_
    refine Runs.aloadN d18_77 rfl <| Runs.iloadN d18_78 rfl <| Runs.iloadN d18_79 rfl <| ?_
    refine bind_el hf fun r19 hg20 hf => ?_
    refine Runs.callV (N := B21) (W := 0) (as := [.int i2, .int i3]) (S' := []) d18_80 w116 w117 w118 w119 cw21 ar21 rk18_21_0 (by decide) rfl rfl (X_delivered_pay hg20) <| ans1 <| Runs.aloadN d18_83 rfl <| Runs.iloadN d18_84 rfl <| Runs.iloadN d18_85 rfl <| ?_
    refine bind_el hf fun r21 hg22 hf => ?_
    refine Runs.swap <| Runs.callV (N := B21) (W := 1) (as := [.int i2, .int i3]) (S' := [.int r19]) d18_86 w116 w117 w118 w119 cw21 ar21 rk18_21_1 (by decide) rfl rfl (X_delivered_pay hg22) <| ans1 <| Runs.swap <| ?_
    refine ite_el hf (fun hc23 hf => ?_) (fun hc23 hf => ?_)
    · refine Runs.icY (pc' := 94) d18_89 (teq hc23).1 (by decide) <| ?_
      exact Runs.iconst d18_94 ci_0 <| Runs.istore (P' := [vr a0, vr a1, vi i2, vi i3, vi (0 : Int32)]) d18_95 (by decide) rfl <| L_same_l97_p k2 hk2 k71 hk71 NF i2 i3 (0 : Int32) hf
    · refine Runs.icN d18_89 (feq hc23).1 <| ?_
      obtain rfl := Option.some.inj hf
      exact Runs.iconst d18_92 ci_0 <| Runs.retZ (y := (0 : Int32)) d18_93 rfl ⟨by decide, by decide⟩ rfl ⟨rfl, rfl⟩
  · refine Runs.icY (pc' := 216) d18_74 (flt hc18).2.1 (by decide) <| ?_
    exact Runs.iinc (P' := [vr a0, vr a1, vi (i2 + (1 : Int32)), vi i3, vn]) d18_216 ci_1 rfl (by decide) rfl <| Runs.goto (pc' := 2) d18_219 (by decide) <| Runs.forget [true, true, true, false, false] rfl <| hk2 (i2 + (1 : Int32)) hf
theorem L_same_l71_p {C : Ctx} {top : Nat} {a0 : Nat} {a1 : Nat} {H : List (Nat × Nat × Rec)} {o0 : Rec} {o1 : Rec} {res : Int32} {NF : Nat} (k2 : Int32 → Option (Int32)) (hk2 : ∀ (i2 : Int32), k2 i2 = some res → Runs C B18 0 0 2 [vr a0, vr a1, vi i2, vn, vn] [] (top, (a0, 9, o0) :: (a1, 9, o1) :: H) (Ans (some (.int res)) (top, (a0, 9, o0) :: (a1, 9, o1) :: H))) (n : Nat) (i2 : Int32) (i3 : Int32) (hf : L_same_l71 NF o0 o1 k2 n i2 i3 = some res) : Runs C B18 0 0 71 [vr a0, vr a1, vi i2, vi i3, vn] [] (top, (a0, 9, o0) :: (a1, 9, o1) :: H) (Ans (some (.int res)) (top, (a0, 9, o0) :: (a1, 9, o1) :: H)) := by
  induction n generalizing i2 i3 with
  | zero => cases (show (none : Option (Int32)) = some res from hf)
  | succ n ih => exact L_same_w71_p k2 hk2 (L_same_l71 NF o0 o1 k2 n) (fun i2 i3 h => ih _ _ h) i2 i3 hf
def L_same_w40 (NF : Nat) (o0 : Rec) (o1 : Rec) (k2 : Int32 → Option (Int32)) (k40 : Int32 → Int32 → Option (Int32)) (i2 : Int32) (i3 : Int32) : Option (Int32) :=
  if i3 < (64 : Int32) then
    (X_deliveredAt o0 i2 i3).bind fun r13 =>
    (X_deliveredAt o1 i2 i3).bind fun r15 =>
    if r13 = r15 then
      k40 i2 (i3 + (1 : Int32))
    else
      some (0 : Int32)
  else
    L_same_l71 NF o0 o1 k2 NF i2 (0 : Int32)
def L_same_l40 (NF : Nat) (o0 : Rec) (o1 : Rec) (k2 : Int32 → Option (Int32)) : Nat → Int32 → Int32 → Option (Int32)
  | 0, _, _ => none
  | n + 1, i2, i3 => L_same_w40 NF o0 o1 k2 (L_same_l40 NF o0 o1 k2 n) i2 i3
set_option maxRecDepth 65536 in
set_option maxHeartbeats 4000000 in
theorem L_same_w40_p {C : Ctx} {top : Nat} {a0 : Nat} {a1 : Nat} {H : List (Nat × Nat × Rec)} {o0 : Rec} {o1 : Rec} {res : Int32} {NF : Nat} (k2 : Int32 → Option (Int32)) (hk2 : ∀ (i2 : Int32), k2 i2 = some res → Runs C B18 0 0 2 [vr a0, vr a1, vi i2, vn, vn] [] (top, (a0, 9, o0) :: (a1, 9, o1) :: H) (Ans (some (.int res)) (top, (a0, 9, o0) :: (a1, 9, o1) :: H))) (k40 : Int32 → Int32 → Option (Int32)) (hk40 : ∀ (i2 : Int32) (i3 : Int32), k40 i2 i3 = some res → Runs C B18 0 0 40 [vr a0, vr a1, vi i2, vi i3, vn] [] (top, (a0, 9, o0) :: (a1, 9, o1) :: H) (Ans (some (.int res)) (top, (a0, 9, o0) :: (a1, 9, o1) :: H))) (i2 : Int32) (i3 : Int32) (hf : L_same_w40 NF o0 o1 k2 k40 i2 i3 = some res) : Runs C B18 0 0 40 [vr a0, vr a1, vi i2, vi i3, vn] [] (top, (a0, 9, o0) :: (a1, 9, o1) :: H) (Ans (some (.int res)) (top, (a0, 9, o0) :: (a1, 9, o1) :: H)) := by
  delta L_same_w40 at hf
  refine Runs.iloadN d18_40 rfl <| Runs.bipush d18_41 cb_64 <| ?_
  refine ite_el hf (fun hc12 hf => ?_) (fun hc12 hf => ?_)
  · refine Runs.icN d18_43 (tlt hc12).2.1 <| ?_
    refine Runs.aloadN d18_46 rfl <| Runs.iloadN d18_47 rfl <| Runs.iloadN d18_48 rfl <| ?_
    refine bind_el hf fun r13 hg14 hf => ?_
    refine Runs.callV (N := B20) (W := 0) (as := [.int i2, .int i3]) (S' := []) d18_49 w111 w112 w113 w114 cw20 ar20 rk18_20_0 (by decide) rfl rfl (X_deliveredAt_pay hg14) <| ans1 <| Runs.aloadN d18_52 rfl <| Runs.iloadN d18_53 rfl <| Runs.iloadN d18_54 rfl <| ?_
    refine bind_el hf fun r15 hg16 hf => ?_
    refine Runs.swap <| Runs.callV (N := B20) (W := 1) (as := [.int i2, .int i3]) (S' := [.int r13]) d18_55 w111 w112 w113 w114 cw20 ar20 rk18_20_1 (by decide) rfl rfl (X_deliveredAt_pay hg16) <| ans1 <| Runs.swap <| ?_
    refine ite_el hf (fun hc17 hf => ?_) (fun hc17 hf => ?_)
    · refine Runs.icY (pc' := 63) d18_58 (teq hc17).1 (by decide) <| ?_
      exact Runs.iinc (P' := [vr a0, vr a1, vi i2, vi (i3 + (1 : Int32)), vn]) d18_63 ci_1 rfl (by decide) rfl <| Runs.goto (pc' := 40) d18_66 (by decide) <| hk40 i2 (i3 + (1 : Int32)) hf
    · refine Runs.icN d18_58 (feq hc17).1 <| ?_
      obtain rfl := Option.some.inj hf
      exact Runs.iconst d18_61 ci_0 <| Runs.retZ (y := (0 : Int32)) d18_62 rfl ⟨by decide, by decide⟩ rfl ⟨rfl, rfl⟩
  · refine Runs.icY (pc' := 69) d18_43 (flt hc12).2.1 (by decide) <| ?_
    exact Runs.iconst d18_69 ci_0 <| Runs.istoreN (P' := [vr a0, vr a1, vi i2, vi (0 : Int32), vn]) d18_70 (by decide) rfl <| L_same_l71_p k2 hk2 NF i2 (0 : Int32) hf
theorem L_same_l40_p {C : Ctx} {top : Nat} {a0 : Nat} {a1 : Nat} {H : List (Nat × Nat × Rec)} {o0 : Rec} {o1 : Rec} {res : Int32} {NF : Nat} (k2 : Int32 → Option (Int32)) (hk2 : ∀ (i2 : Int32), k2 i2 = some res → Runs C B18 0 0 2 [vr a0, vr a1, vi i2, vn, vn] [] (top, (a0, 9, o0) :: (a1, 9, o1) :: H) (Ans (some (.int res)) (top, (a0, 9, o0) :: (a1, 9, o1) :: H))) (n : Nat) (i2 : Int32) (i3 : Int32) (hf : L_same_l40 NF o0 o1 k2 n i2 i3 = some res) : Runs C B18 0 0 40 [vr a0, vr a1, vi i2, vi i3, vn] [] (top, (a0, 9, o0) :: (a1, 9, o1) :: H) (Ans (some (.int res)) (top, (a0, 9, o0) :: (a1, 9, o1) :: H)) := by
  induction n generalizing i2 i3 with
  | zero => cases (show (none : Option (Int32)) = some res from hf)
  | succ n ih => exact L_same_w40_p k2 hk2 (L_same_l40 NF o0 o1 k2 n) (fun i2 i3 h => ih _ _ h) i2 i3 hf
def L_same_w2 (NF : Nat) (o0 : Rec) (o1 : Rec) (k2 : Int32 → Option (Int32)) (i2 : Int32) : Option (Int32) :=
  if i2 < (8 : Int32) then
    (X_isCrashed o0 i2).bind fun r2 =>
    (X_isCrashed o1 i2).bind fun r4 =>
    if r2 = r4 then
      (X_sent o0 i2).bind fun r7 =>
      (X_sent o1 i2).bind fun r9 =>
      if r7 = r9 then
        L_same_l40 NF o0 o1 k2 NF i2 (0 : Int32)
      else
        some (0 : Int32)
    else
      some (0 : Int32)
  else
    some (1 : Int32)
def L_same_l2 (NF : Nat) (o0 : Rec) (o1 : Rec) : Nat → Int32 → Option (Int32)
  | 0, _ => none
  | n + 1, i2 => L_same_w2 NF o0 o1 (L_same_l2 NF o0 o1 n) i2
set_option maxRecDepth 65536 in
set_option maxHeartbeats 4000000 in
theorem L_same_w2_p {C : Ctx} {top : Nat} {a0 : Nat} {a1 : Nat} {H : List (Nat × Nat × Rec)} {o0 : Rec} {o1 : Rec} {res : Int32} {NF : Nat} (k2 : Int32 → Option (Int32)) (hk2 : ∀ (i2 : Int32), k2 i2 = some res → Runs C B18 0 0 2 [vr a0, vr a1, vi i2, vn, vn] [] (top, (a0, 9, o0) :: (a1, 9, o1) :: H) (Ans (some (.int res)) (top, (a0, 9, o0) :: (a1, 9, o1) :: H))) (i2 : Int32) (hf : L_same_w2 NF o0 o1 k2 i2 = some res) : Runs C B18 0 0 2 [vr a0, vr a1, vi i2, vn, vn] [] (top, (a0, 9, o0) :: (a1, 9, o1) :: H) (Ans (some (.int res)) (top, (a0, 9, o0) :: (a1, 9, o1) :: H)) := by
  delta L_same_w2 at hf
  refine Runs.iloadN d18_2 rfl <| Runs.bipush d18_3 cb_8 <| ?_
  refine ite_el hf (fun hc1 hf => ?_) (fun hc1 hf => ?_)
  · refine Runs.icN d18_5 (tlt hc1).2.1 <| ?_
    refine Runs.aloadN d18_8 rfl <| Runs.iloadN d18_9 rfl <| ?_
    refine bind_el hf fun r2 hg3 hf => ?_
    refine Runs.callV (N := B17) (W := 0) (as := [.int i2]) (S' := []) d18_10 w98 w99 w100 w101 cw17 ar17 rk18_17_0 (by decide) rfl rfl (X_isCrashed_pay hg3) <| ans1 <| Runs.aloadN d18_13 rfl <| Runs.iloadN d18_14 rfl <| ?_
    refine bind_el hf fun r4 hg5 hf => ?_
    refine Runs.swap <| Runs.callV (N := B17) (W := 1) (as := [.int i2]) (S' := [.int r2]) d18_15 w98 w99 w100 w101 cw17 ar17 rk18_17_1 (by decide) rfl rfl (X_isCrashed_pay hg5) <| ans1 <| Runs.swap <| ?_
    refine ite_el hf (fun hc6 hf => ?_) (fun hc6 hf => ?_)
    · refine Runs.icY (pc' := 23) d18_18 (teq hc6).1 (by decide) <| ?_
      refine Runs.aloadN d18_23 rfl <| Runs.iloadN d18_24 rfl <| ?_
      refine bind_el hf fun r7 hg8 hf => ?_
      refine Runs.callV (N := B19) (W := 0) (as := [.int i2]) (S' := []) d18_25 w106 w107 w108 w109 cw19 ar19 rk18_19_0 (by decide) rfl rfl (X_sent_pay hg8) <| ans1 <| Runs.aloadN d18_28 rfl <| Runs.iloadN d18_29 rfl <| ?_
      refine bind_el hf fun r9 hg10 hf => ?_
      refine Runs.swap <| Runs.callV (N := B19) (W := 1) (as := [.int i2]) (S' := [.int r7]) d18_30 w106 w107 w108 w109 cw19 ar19 rk18_19_1 (by decide) rfl rfl (X_sent_pay hg10) <| ans1 <| Runs.swap <| ?_
      refine ite_el hf (fun hc11 hf => ?_) (fun hc11 hf => ?_)
      · refine Runs.icY (pc' := 38) d18_33 (teq hc11).1 (by decide) <| ?_
        exact Runs.iconst d18_38 ci_0 <| Runs.istoreN (P' := [vr a0, vr a1, vi i2, vi (0 : Int32), vn]) d18_39 (by decide) rfl <| L_same_l40_p k2 hk2 NF i2 (0 : Int32) hf
      · refine Runs.icN d18_33 (feq hc11).1 <| ?_
        obtain rfl := Option.some.inj hf
        exact Runs.iconst d18_36 ci_0 <| Runs.retZ (y := (0 : Int32)) d18_37 rfl ⟨by decide, by decide⟩ rfl ⟨rfl, rfl⟩
    · refine Runs.icN d18_18 (feq hc6).1 <| ?_
      obtain rfl := Option.some.inj hf
      exact Runs.iconst d18_21 ci_0 <| Runs.retZ (y := (0 : Int32)) d18_22 rfl ⟨by decide, by decide⟩ rfl ⟨rfl, rfl⟩
  · refine Runs.icY (pc' := 222) d18_5 (flt hc1).2.1 (by decide) <| ?_
    obtain rfl := Option.some.inj hf
    exact Runs.iconst d18_222 ci_1 <| Runs.retZ (y := (1 : Int32)) d18_223 rfl ⟨by decide, by decide⟩ rfl ⟨rfl, rfl⟩
theorem L_same_l2_p {C : Ctx} {top : Nat} {a0 : Nat} {a1 : Nat} {H : List (Nat × Nat × Rec)} {o0 : Rec} {o1 : Rec} {res : Int32} {NF : Nat} (n : Nat) (i2 : Int32) (hf : L_same_l2 NF o0 o1 n i2 = some res) : Runs C B18 0 0 2 [vr a0, vr a1, vi i2, vn, vn] [] (top, (a0, 9, o0) :: (a1, 9, o1) :: H) (Ans (some (.int res)) (top, (a0, 9, o0) :: (a1, 9, o1) :: H)) := by
  induction n generalizing i2 with
  | zero => cases (show (none : Option (Int32)) = some res from hf)
  | succ n ih => exact L_same_w2_p (L_same_l2 NF o0 o1 n) (fun i2 h => ih _ h) i2 hf
def L_same (NF : Nat) (o0 : Rec) (o1 : Rec) : Option (Int32) :=
  L_same_l2 NF o0 o1 NF (0 : Int32)
set_option maxRecDepth 65536 in
set_option maxHeartbeats 4000000 in
theorem L_same_p {C : Ctx} {top : Nat} {a0 : Nat} {a1 : Nat} {H : List (Nat × Nat × Rec)} {o0 : Rec} {o1 : Rec} {res : Int32} {NF : Nat} (hf : L_same NF o0 o1 = some res) : Runs C B18 0 0 0 [vr a0, vr a1, vn, vn, vn] [] (top, (a0, 9, o0) :: (a1, 9, o1) :: H) (Ans (some (.int res)) (top, (a0, 9, o0) :: (a1, 9, o1) :: H)) := by
  delta L_same at hf
  exact Runs.iconst d18_0 ci_0 <| Runs.istoreN (P' := [vr a0, vr a1, vi (0 : Int32), vn, vn]) d18_1 (by decide) rfl <| L_same_l2_p NF (0 : Int32) hf
theorem L_same_pay {C : Ctx} {top : Nat} {a0 : Nat} {a1 : Nat} {H : List (Nat × Nat × Rec)} {o0 : Rec} {o1 : Rec} {res : Int32} {NF : Nat} (hf : L_same NF o0 o1 = some res) : Pays C B18 [.ref a0, .ref a1] (top, (a0, 9, o0) :: (a1, 9, o1) :: H) (Ans (some (.int res)) (top, (a0, 9, o0) :: (a1, 9, o1) :: H)) :=
  Pays.of pnL (Nat.le_of_ble_eq_true rfl) (P := [vr a0, vr a1, vn, vn, vn]) 3 rfl (L_same_p hf)
def L_law_b127 (NF : Nat) (z : Int32) (f : Int32 → Int32) (k22 : Rec → Rec → Int32 → Option (Int32)) (o0 : Rec) (o1 : Rec) (i3 : Int32) (i5 : Int32) (i6 : Int32) (i7 : Int32) : Option (Int32) :=
  bind2 (X_receive NF o1 i5 i6 i7) fun r26 q27 =>
  k22 o0 q27 (i3 + (5 : Int32))
set_option maxRecDepth 65536 in
set_option maxHeartbeats 4000000 in
theorem L_law_b127_p {C : Ctx} {sa : Nat} {z : Int32} {f : Int32 → Int32} (hs : ScrF C sa z f) {res : Int32} {NF : Nat} (k22 : Rec → Rec → Int32 → Option (Int32)) (hk22 : ∀ (o0 : Rec) (o1 : Rec) (i3 : Int32), k22 o0 o1 i3 = some res → Runs C B0 20 5318 22 [vr sa, vr C.2.2.1, vr (C.2.2.1 + 1 + 9), vi i3, vn, vn, vn, vn, vn, vn, vn] [] (C.2.2.1 + 1 + 9 + 1 + 9, (C.2.2.1, 9, o0) :: (C.2.2.1 + 1 + 9, 9, o1) :: []) (fun v _ => v = (some (.int res)))) (o0 : Rec) (o1 : Rec) (i3 : Int32) (i5 : Int32) (i6 : Int32) (i7 : Int32) (hf : L_law_b127 NF z f k22 o0 o1 i3 i5 i6 i7 = some res) : Runs C B0 20 5318 127 [vr sa, vr C.2.2.1, vr (C.2.2.1 + 1 + 9), vi i3, vn, vi i5, vi i6, vi i7, vn, vn, vn] [] (C.2.2.1 + 1 + 9 + 1 + 9, (C.2.2.1, 9, o0) :: (C.2.2.1 + 1 + 9, 9, o1) :: []) (fun v _ => v = (some (.int res))) := by
  delta L_law_b127 at hf
  refine Runs.aloadN d0_127 rfl <| Runs.iload d0_128 rfl <| Runs.iload d0_130 rfl <| Runs.iload d0_132 rfl <| ?_
  refine bind2_el hf fun r26 q27 hg28 hf => ?_
  exact Runs.swap <| Runs.callV (N := B12) (W := 0) (as := [.int i5, .int i6, .int i7]) (S' := []) d0_134 w76 w77 w78 w79 cw12 ar12 rk0_12_0 (by decide) rfl rfl (X_receive_pay hg28) <| ans1 <| Runs.swap <| Runs.pop d0_137 rfl <| Runs.goto (pc' := 169) d0_138 (by decide) <| Runs.iinc (P' := [vr sa, vr C.2.2.1, vr (C.2.2.1 + 1 + 9), vi (i3 + (5 : Int32)), vn, vi i5, vi i6, vi i7, vn, vn, vn]) d0_169 ci_5 rfl (by decide) rfl <| Runs.goto (pc' := 22) d0_172 (by decide) <| Runs.forget [true, true, true, true, false, false, false, false, false, false, false] rfl <| hk22 o0 q27 (i3 + (5 : Int32)) hf
def L_law_w22 (NF : Nat) (z : Int32) (f : Int32 → Int32) (k22 : Rec → Rec → Int32 → Option (Int32)) (o0 : Rec) (o1 : Rec) (i3 : Int32) : Option (Int32) :=
  if z < (i3 + (5 : Int32)) then
    (L_same NF o0 o1).bind fun r2 =>
    some (r2 &&& 1)
  else
    chk z i3 <|
    chk z (i3 + (1 : Int32)) <|
    chk z (i3 + (2 : Int32)) <|
    chk z (i3 + (3 : Int32)) <|
    chk z (i3 + (4 : Int32)) <|
    if ((f i3) &&& (7 : Int32)) = (1 : Int32) then
      bind2 (X_receive NF o0 (f (i3 + (1 : Int32))) (f (i3 + (2 : Int32))) (f (i3 + (3 : Int32)))) fun r10 q11 =>
      (X_state o1 (f (i3 + (1 : Int32))) (f (i3 + (2 : Int32))) (f (i3 + (3 : Int32)))).bind fun r13 =>
      (X_isCrashed o1 (f (i3 + (1 : Int32)))).bind fun r15 =>
      if (0 : Int32) < r13 then
        if r15 = (0 : Int32) then
          bind2 (X_drop o1 (f (i3 + (2 : Int32))) (f (i3 + (3 : Int32))) (f (i3 + (1 : Int32)))) fun r19 q20 =>
          k22 q11 q20 (i3 + (5 : Int32))
        else
          L_law_b127 NF z f k22 q11 o1 i3 (f (i3 + (1 : Int32))) (f (i3 + (2 : Int32))) (f (i3 + (3 : Int32)))
      else
        L_law_b127 NF z f k22 q11 o1 i3 (f (i3 + (1 : Int32))) (f (i3 + (2 : Int32))) (f (i3 + (3 : Int32)))
    else
      (L_step NF o0 ((f i3) &&& (7 : Int32)) (f (i3 + (1 : Int32))) (f (i3 + (2 : Int32))) (f (i3 + (3 : Int32))) (f (i3 + (4 : Int32)))).bind fun q22 =>
      (L_step NF o1 ((f i3) &&& (7 : Int32)) (f (i3 + (1 : Int32))) (f (i3 + (2 : Int32))) (f (i3 + (3 : Int32))) (f (i3 + (4 : Int32)))).bind fun q24 =>
      k22 q22 q24 (i3 + (5 : Int32))
def L_law_l22 (NF : Nat) (z : Int32) (f : Int32 → Int32) : Nat → Rec → Rec → Int32 → Option (Int32)
  | 0, _, _, _ => none
  | n + 1, o0, o1, i3 => L_law_w22 NF z f (L_law_l22 NF z f n) o0 o1 i3
set_option maxRecDepth 65536 in
set_option maxHeartbeats 4000000 in
theorem L_law_w22_p {C : Ctx} {sa : Nat} {z : Int32} {f : Int32 → Int32} (hs : ScrF C sa z f) {res : Int32} {NF : Nat} (k22 : Rec → Rec → Int32 → Option (Int32)) (hk22 : ∀ (o0 : Rec) (o1 : Rec) (i3 : Int32), k22 o0 o1 i3 = some res → Runs C B0 20 5318 22 [vr sa, vr C.2.2.1, vr (C.2.2.1 + 1 + 9), vi i3, vn, vn, vn, vn, vn, vn, vn] [] (C.2.2.1 + 1 + 9 + 1 + 9, (C.2.2.1, 9, o0) :: (C.2.2.1 + 1 + 9, 9, o1) :: []) (fun v _ => v = (some (.int res)))) (o0 : Rec) (o1 : Rec) (i3 : Int32) (hf : L_law_w22 NF z f k22 o0 o1 i3 = some res) : Runs C B0 20 5318 22 [vr sa, vr C.2.2.1, vr (C.2.2.1 + 1 + 9), vi i3, vn, vn, vn, vn, vn, vn, vn] [] (C.2.2.1 + 1 + 9 + 1 + 9, (C.2.2.1, 9, o0) :: (C.2.2.1 + 1 + 9, 9, o1) :: []) (fun v _ => v = (some (.int res))) := by
  delta L_law_w22 at hf
  refine Runs.iloadN d0_22 rfl <| Runs.iconst d0_23 ci_5 <| Runs.iadd d0_24 <| Runs.aloadN d0_25 rfl <| Runs.lenS hs d0_26 <| ?_
  refine ite_el hf (fun hc1 hf => ?_) (fun hc1 hf => ?_)
  · refine Runs.icY (pc' := 175) d0_27 (tlt hc1).2.2.1 (by decide) <| ?_
    refine Runs.aloadN d0_175 rfl <| Runs.aloadN d0_176 rfl <| ?_
    refine bind_el hf fun r2 hg3 hf => ?_
    obtain rfl := Option.some.inj hf
    exact Runs.callS (N := B18) (W := 0) (as := [.ref C.2.2.1, .ref (C.2.2.1 + 1 + 9)]) (S' := []) d0_177 w103 w104 cw18 ar18 rk0_18_0 (by decide) rfl rfl (L_same_pay hg3) <| ans1 <| Runs.retZ (y := (r2 &&& 1)) d0_180 rfl ⟨by decide, by decide⟩ rfl rfl
  · refine Runs.icN d0_27 (flt hc1).2.2.1 <| ?_
    refine Runs.aloadN d0_30 rfl <| Runs.iloadN d0_31 rfl <| ?_
    refine chk_el hf fun hi4 hf => ?_
    refine Runs.ialoadS hs d0_32 hi4 <| Runs.bipush d0_33 cb_7 <| Runs.iand d0_35 <| Runs.istore (P' := [vr sa, vr C.2.2.1, vr (C.2.2.1 + 1 + 9), vi i3, vi ((f i3) &&& (7 : Int32)), vn, vn, vn, vn, vn, vn]) d0_36 (by decide) rfl <| Runs.aloadN d0_38 rfl <| Runs.iloadN d0_39 rfl <| Runs.iconst d0_40 ci_1 <| Runs.iadd d0_41 <| ?_
    refine chk_el hf fun hi5 hf => ?_
    refine Runs.ialoadS hs d0_42 hi5 <| Runs.istore (P' := [vr sa, vr C.2.2.1, vr (C.2.2.1 + 1 + 9), vi i3, vi ((f i3) &&& (7 : Int32)), vi (f (i3 + (1 : Int32))), vn, vn, vn, vn, vn]) d0_43 (by decide) rfl <| Runs.aloadN d0_45 rfl <| Runs.iloadN d0_46 rfl <| Runs.iconst d0_47 ci_2 <| Runs.iadd d0_48 <| ?_
    refine chk_el hf fun hi6 hf => ?_
    refine Runs.ialoadS hs d0_49 hi6 <| Runs.istore (P' := [vr sa, vr C.2.2.1, vr (C.2.2.1 + 1 + 9), vi i3, vi ((f i3) &&& (7 : Int32)), vi (f (i3 + (1 : Int32))), vi (f (i3 + (2 : Int32))), vn, vn, vn, vn]) d0_50 (by decide) rfl <| Runs.aloadN d0_52 rfl <| Runs.iloadN d0_53 rfl <| Runs.iconst d0_54 ci_3 <| Runs.iadd d0_55 <| ?_
    refine chk_el hf fun hi7 hf => ?_
    refine Runs.ialoadS hs d0_56 hi7 <| Runs.istore (P' := [vr sa, vr C.2.2.1, vr (C.2.2.1 + 1 + 9), vi i3, vi ((f i3) &&& (7 : Int32)), vi (f (i3 + (1 : Int32))), vi (f (i3 + (2 : Int32))), vi (f (i3 + (3 : Int32))), vn, vn, vn]) d0_57 (by decide) rfl <| Runs.aloadN d0_59 rfl <| Runs.iloadN d0_60 rfl <| Runs.iconst d0_61 ci_4 <| Runs.iadd d0_62 <| ?_
    refine chk_el hf fun hi8 hf => ?_
    refine Runs.ialoadS hs d0_63 hi8 <| Runs.istore (P' := [vr sa, vr C.2.2.1, vr (C.2.2.1 + 1 + 9), vi i3, vi ((f i3) &&& (7 : Int32)), vi (f (i3 + (1 : Int32))), vi (f (i3 + (2 : Int32))), vi (f (i3 + (3 : Int32))), vi (f (i3 + (4 : Int32))), vn, vn]) d0_64 (by decide) rfl <| Runs.iload d0_66 rfl <| Runs.iconst d0_68 ci_1 <| ?_
    refine ite_el hf (fun hc9 hf => ?_) (fun hc9 hf => ?_)
    · refine Runs.icN d0_69 (teq hc9).2 <| ?_
      refine Runs.aloadN d0_72 rfl <| Runs.iload d0_73 rfl <| Runs.iload d0_75 rfl <| Runs.iload d0_77 rfl <| ?_
      refine bind2_el hf fun r10 q11 hg12 hf => ?_
      refine Runs.callV (N := B12) (W := 0) (as := [.int (f (i3 + (1 : Int32))), .int (f (i3 + (2 : Int32))), .int (f (i3 + (3 : Int32)))]) (S' := []) d0_79 w76 w77 w78 w79 cw12 ar12 rk0_12_0 (by decide) rfl rfl (X_receive_pay hg12) <| ans1 <| Runs.pop d0_82 rfl <| Runs.aloadN d0_83 rfl <| Runs.iload d0_84 rfl <| Runs.iload d0_86 rfl <| Runs.iload d0_88 rfl <| ?_
      refine bind_el hf fun r13 hg14 hf => ?_
      refine Runs.swap <| Runs.callV (N := B16) (W := 0) (as := [.int (f (i3 + (1 : Int32))), .int (f (i3 + (2 : Int32))), .int (f (i3 + (3 : Int32)))]) (S' := []) d0_90 w93 w94 w95 w96 cw16 ar16 rk0_16_0 (by decide) rfl rfl (X_state_pay hg14) <| ans1 <| Runs.swap <| Runs.istore (P' := [vr sa, vr C.2.2.1, vr (C.2.2.1 + 1 + 9), vi i3, vi ((f i3) &&& (7 : Int32)), vi (f (i3 + (1 : Int32))), vi (f (i3 + (2 : Int32))), vi (f (i3 + (3 : Int32))), vi (f (i3 + (4 : Int32))), vi r13, vn]) d0_93 (by decide) rfl <| Runs.aloadN d0_95 rfl <| Runs.iload d0_96 rfl <| ?_
      refine bind_el hf fun r15 hg16 hf => ?_
      refine Runs.swap <| Runs.callV (N := B17) (W := 0) (as := [.int (f (i3 + (1 : Int32)))]) (S' := []) d0_98 w98 w99 w100 w101 cw17 ar17 rk0_17_0 (by decide) rfl rfl (X_isCrashed_pay hg16) <| ans1 <| Runs.swap <| Runs.istore (P' := [vr sa, vr C.2.2.1, vr (C.2.2.1 + 1 + 9), vi i3, vi ((f i3) &&& (7 : Int32)), vi (f (i3 + (1 : Int32))), vi (f (i3 + (2 : Int32))), vi (f (i3 + (3 : Int32))), vi (f (i3 + (4 : Int32))), vi r13, vi r15]) d0_101 (by decide) rfl <| Runs.iload d0_103 rfl <| ?_
      refine ite_el hf (fun hc17 hf => ?_) (fun hc17 hf => ?_)
      · refine Runs.ifN d0_105 (tlt hc17).2.2.2 <| ?_
        refine Runs.iload d0_108 rfl <| ?_
        refine ite_el hf (fun hc18 hf => ?_) (fun hc18 hf => ?_)
        · refine Runs.ifN d0_110 (teq hc18).2 <| ?_
          refine Runs.aloadN d0_113 rfl <| Runs.iload d0_114 rfl <| Runs.iload d0_116 rfl <| Runs.iload d0_118 rfl <| ?_
          refine bind2_el hf fun r19 q20 hg21 hf => ?_
          exact Runs.swap <| Runs.callV (N := B3) (W := 0) (as := [.int (f (i3 + (2 : Int32))), .int (f (i3 + (3 : Int32))), .int (f (i3 + (1 : Int32)))]) (S' := []) d0_120 w37 w38 w39 w40 cw3 ar3 rk0_3_0 (by decide) rfl rfl (X_drop_pay hg21) <| ans1 <| Runs.swap <| Runs.pop d0_123 rfl <| Runs.goto (pc' := 138) d0_124 (by decide) <| Runs.goto (pc' := 169) d0_138 (by decide) <| Runs.iinc (P' := [vr sa, vr C.2.2.1, vr (C.2.2.1 + 1 + 9), vi (i3 + (5 : Int32)), vi ((f i3) &&& (7 : Int32)), vi (f (i3 + (1 : Int32))), vi (f (i3 + (2 : Int32))), vi (f (i3 + (3 : Int32))), vi (f (i3 + (4 : Int32))), vi r13, vi r15]) d0_169 ci_5 rfl (by decide) rfl <| Runs.goto (pc' := 22) d0_172 (by decide) <| Runs.forget [true, true, true, true, false, false, false, false, false, false, false] rfl <| hk22 q11 q20 (i3 + (5 : Int32)) hf
        · exact Runs.ifY (pc' := 127) d0_110 (feq hc18).2 (by decide) <| Runs.forget [true, true, true, true, false, true, true, true, false, false, false] rfl <| L_law_b127_p hs k22 hk22 q11 o1 i3 (f (i3 + (1 : Int32))) (f (i3 + (2 : Int32))) (f (i3 + (3 : Int32))) hf
      · exact Runs.ifY (pc' := 127) d0_105 (flt hc17).2.2.2 (by decide) <| Runs.forget [true, true, true, true, false, true, true, true, false, false, false] rfl <| L_law_b127_p hs k22 hk22 q11 o1 i3 (f (i3 + (1 : Int32))) (f (i3 + (2 : Int32))) (f (i3 + (3 : Int32))) hf
    · refine Runs.icY (pc' := 141) d0_69 (feq hc9).2 (by decide) <| ?_
      refine Runs.aloadN d0_141 rfl <| Runs.iload d0_142 rfl <| Runs.iload d0_144 rfl <| Runs.iload d0_146 rfl <| Runs.iload d0_148 rfl <| Runs.iload d0_150 rfl <| ?_
      refine bind_el hf fun q22 hg23 hf => ?_
      refine Runs.callS (N := B2) (W := 0) (as := [.ref C.2.2.1, .int ((f i3) &&& (7 : Int32)), .int (f (i3 + (1 : Int32))), .int (f (i3 + (2 : Int32))), .int (f (i3 + (3 : Int32))), .int (f (i3 + (4 : Int32)))]) (S' := []) d0_152 w33 w34 cw2 ar2 rk0_2_0 (by decide) rfl rfl (L_step_pay hg23) <| ans0 <| Runs.aloadN d0_155 rfl <| Runs.iload d0_156 rfl <| Runs.iload d0_158 rfl <| Runs.iload d0_160 rfl <| Runs.iload d0_162 rfl <| Runs.iload d0_164 rfl <| ?_
      refine bind_el hf fun q24 hg25 hf => ?_
      exact Runs.swap <| Runs.callS (N := B2) (W := 0) (as := [.ref (C.2.2.1 + 1 + 9), .int ((f i3) &&& (7 : Int32)), .int (f (i3 + (1 : Int32))), .int (f (i3 + (2 : Int32))), .int (f (i3 + (3 : Int32))), .int (f (i3 + (4 : Int32)))]) (S' := []) d0_166 w33 w34 cw2 ar2 rk0_2_0 (by decide) rfl rfl (L_step_pay hg25) <| ans0 <| Runs.swap <| Runs.iinc (P' := [vr sa, vr C.2.2.1, vr (C.2.2.1 + 1 + 9), vi (i3 + (5 : Int32)), vi ((f i3) &&& (7 : Int32)), vi (f (i3 + (1 : Int32))), vi (f (i3 + (2 : Int32))), vi (f (i3 + (3 : Int32))), vi (f (i3 + (4 : Int32))), vn, vn]) d0_169 ci_5 rfl (by decide) rfl <| Runs.goto (pc' := 22) d0_172 (by decide) <| Runs.forget [true, true, true, true, false, false, false, false, false, false, false] rfl <| hk22 q22 q24 (i3 + (5 : Int32)) hf
theorem L_law_l22_p {C : Ctx} {sa : Nat} {z : Int32} {f : Int32 → Int32} (hs : ScrF C sa z f) {res : Int32} {NF : Nat} (n : Nat) (o0 : Rec) (o1 : Rec) (i3 : Int32) (hf : L_law_l22 NF z f n o0 o1 i3 = some res) : Runs C B0 20 5318 22 [vr sa, vr C.2.2.1, vr (C.2.2.1 + 1 + 9), vi i3, vn, vn, vn, vn, vn, vn, vn] [] (C.2.2.1 + 1 + 9 + 1 + 9, (C.2.2.1, 9, o0) :: (C.2.2.1 + 1 + 9, 9, o1) :: []) (fun v _ => v = (some (.int res))) := by
  induction n generalizing o0 o1 i3 with
  | zero => cases (show (none : Option (Int32)) = some res from hf)
  | succ n ih => exact L_law_w22_p hs (L_law_l22 NF z f n) (fun o0 o1 i3 h => ih _ _ _ h) o0 o1 i3 hf
def L_law (NF : Nat) (z : Int32) (f : Int32 → Int32) : Option (Int32) :=
  (X_init (4 : Int32) (3 : Int32)).bind fun q29 =>
  (X_init (4 : Int32) (3 : Int32)).bind fun q31 =>
  L_law_l22 NF z f NF q29 q31 (0 : Int32)
set_option maxRecDepth 65536 in
set_option maxHeartbeats 4000000 in
theorem L_law_p {C : Ctx} {sa : Nat} {z : Int32} {f : Int32 → Int32} (hs : ScrF C sa z f) {res : Int32} {NF : Nat} (hf : L_law NF z f = some res) : Runs C B0 0 0 0 [vr sa, vn, vn, vn, vn, vn, vn, vn, vn, vn, vn] [] (C.2.2.1, []) (fun v _ => v = (some (.int res))) := by
  delta L_law at hf
  refine Runs.newK (k' := 1) (n' := 11) d0_0 w0 ⟨by decide, by decide⟩ rfl rfl (by intro x hx; cases hx) <| Runs.dup d0_3 rfl <| Runs.iconst d0_4 ci_4 <| Runs.iconst d0_5 ci_3 <| ?_
  refine bind_el hf fun q29 hg30 hf => ?_
  refine Runs.callI (N := B1) (k' := 10) (n' := 2659) (W := 1) (as := [.int (4 : Int32), .int (3 : Int32)]) (S' := [.ref C.2.2.1]) d0_6 rfl rfl w3 w4 cw1 ar1 (by decide) rfl rfl rfl rfl (X_init_pay hg30) <| ans0 <| Runs.astoreN (P' := [vr sa, vr C.2.2.1, vn, vn, vn, vn, vn, vn, vn, vn, vn]) d0_9 (by decide) rfl <| Runs.newK (k' := 11) (n' := 2670) d0_10 w0 ⟨by decide, by decide⟩ rfl rfl (by intro x hx; simp only [List.mem_cons, List.not_mem_nil, or_false] at hx; subst hx; dsimp only; omega) <| Runs.swap <| Runs.dup d0_13 rfl <| Runs.iconst d0_14 ci_4 <| Runs.iconst d0_15 ci_3 <| ?_
  refine bind_el hf fun q31 hg32 hf => ?_
  exact Runs.swap <| Runs.callI (N := B1) (k' := 20) (n' := 5318) (W := 1) (as := [.int (4 : Int32), .int (3 : Int32)]) (S' := [.ref (C.2.2.1 + 1 + 9)]) d0_16 rfl rfl w3 w4 cw1 ar1 (by decide) rfl rfl rfl rfl (X_init_pay hg32) <| ans0 <| Runs.swap <| Runs.astoreN (P' := [vr sa, vr C.2.2.1, vr (C.2.2.1 + 1 + 9), vn, vn, vn, vn, vn, vn, vn, vn]) d0_19 (by decide) rfl <| Runs.iconst d0_20 ci_0 <| Runs.istoreN (P' := [vr sa, vr C.2.2.1, vr (C.2.2.1 + 1 + 9), vi (0 : Int32), vn, vn, vn, vn, vn, vn, vn]) d0_21 (by decide) rfl <| L_law_l22_p hs NF q29 q31 (0 : Int32) hf
theorem L_law_pay {C : Ctx} {sa : Nat} {z : Int32} {f : Int32 → Int32} (hs : ScrF C sa z f) {res : Int32} {NF : Nat} (hf : L_law NF z f = some res) : Pays C B0 [.ref sa] (C.2.2.1, []) (fun v _ => v = (some (.int res))) :=
  Pays.of pnL (Nat.le_of_ble_eq_true rfl) (P := [vr sa, vn, vn, vn, vn, vn, vn, vn, vn, vn, vn]) 10 rfl (L_law_p hs hf)
--OWED--
theorem gI_sI (ob : Rec) (k j : Nat) (v : Int32) : gI (sI ob k v) j = if j = k then v else gI ob j := rfl
theorem gI_sA (ob : Rec) (k j : Nat) (i v : Int32) : gI (sA ob k i v) j = gI ob j := rfl
theorem gI_sJ (ob : Rec) (k j : Nat) (i : Int32) (v : Int64) : gI (sJ ob k i v) j = gI ob j := rfl
theorem gA_sI (ob : Rec) (k j : Nat) (v x : Int32) : gA (sI ob k v) j x = gA ob j x := rfl
theorem gA_sA (ob : Rec) (k j : Nat) (i v x : Int32) : gA (sA ob k i v) j x = if j = k ∧ x = i then v else gA ob j x := rfl
theorem gA_sJ (ob : Rec) (k j : Nat) (i x : Int32) (v : Int64) : gA (sJ ob k i v) j x = gA ob j x := rfl
theorem gJ_sI (ob : Rec) (k j : Nat) (v x : Int32) : gJ (sI ob k v) j x = gJ ob j x := rfl
theorem gJ_sA (ob : Rec) (k j : Nat) (i v x : Int32) : gJ (sA ob k i v) j x = gJ ob j x := rfl
theorem gJ_sJ (ob : Rec) (k j : Nat) (i x : Int32) (v : Int64) : gJ (sJ ob k i v) j x = if j = k ∧ x = i then v else gJ ob j x := rfl
theorem gI_z (k : Nat) : gI zrec k = 0 := rfl
theorem gA_z (k : Nat) (i : Int32) : gA zrec k i = 0 := rfl
theorem gJ_z (k : Nat) (i : Int32) : gJ zrec k i = 0 := rfl
theorem chk_ok {γ : Type} {n i : Int32} {A : Option γ} (h : 0 ≤ i.toInt ∧ i.toInt < n.toInt) : chk n i A = A := by
  have h0 : ¬ i < 0 := by rw [Int32.lt_iff_toInt_lt]; show ¬ i.toInt < 0; omega
  have h1 : i < n := by rw [Int32.lt_iff_toInt_lt]; exact h.2
  unfold chk; rw [if_neg h0, if_pos h1]
theorem lt_i {x y : Int32} : x < y ↔ x.toInt < y.toInt := Int32.lt_iff_toInt_lt
theorem le_i {x y : Int32} : x ≤ y ↔ x.toInt ≤ y.toInt := Int32.le_iff_toInt_le
theorem eq_i32 {x y : Int32} : x = y ↔ x.toInt = y.toInt := Int32.toInt_inj.symm
theorem bm_id {n : Int} (h : -2147483648 ≤ n ∧ n < 2147483648) : n.bmod (2 ^ 32) = n := Int.bmod_eq_of_le (by omega) (by omega)
theorem ad {x y : Int32} (h : -2147483648 ≤ x.toInt + y.toInt ∧ x.toInt + y.toInt < 2147483648) : (x + y).toInt = x.toInt + y.toInt := by rw [Int32.toInt_add, bm_id h]
theorem sb {x y : Int32} (h : -2147483648 ≤ x.toInt - y.toInt ∧ x.toInt - y.toInt < 2147483648) : (x - y).toInt = x.toInt - y.toInt := by rw [Int32.toInt_sub, bm_id h]
theorem ml {x y : Int32} (h : -2147483648 ≤ x.toInt * y.toInt ∧ x.toInt * y.toInt < 2147483648) : (x * y).toInt = x.toInt * y.toInt := by rw [Int32.toInt_mul, bm_id h]
def CInv (ob : Rec) : Prop := 2 ≤ (gI ob 0).toInt ∧ (gI ob 0).toInt ≤ 8 ∧ 1 ≤ (gI ob 1).toInt ∧ (gI ob 1).toInt ≤ 8 ∧ (∀ o, 0 ≤ (gA ob 0 o).toInt ∧ (gA ob 0 o).toInt ≤ (gI ob 1).toInt) ∧ (∀ i, 0 ≤ (gA ob 5 i).toInt ∧ (gA ob 5 i).toInt ≤ 3) ∧ (∀ i, gA ob 1 i = 0 ∨ gA ob 1 i = 1)
/-- scalars and the arrays that CInv speaks of are as they were -/
def CSame (ob ob' : Rec) : Prop := ob'.1 = ob.1 ∧ (∀ i, gA ob' 0 i = gA ob 0 i) ∧ (∀ i, gA ob' 1 i = gA ob 1 i) ∧ (∀ i, gA ob' 5 i = gA ob 5 i)
theorem CSame.refl (ob : Rec) : CSame ob ob := ⟨rfl, fun _ => rfl, fun _ => rfl, fun _ => rfl⟩
theorem CSame.trans {a b c : Rec} (h : CSame a b) (g : CSame b c) : CSame a c := ⟨g.1.trans h.1, fun i => (g.2.1 i).trans (h.2.1 i), fun i => (g.2.2.1 i).trans (h.2.2.1 i), fun i => (g.2.2.2 i).trans (h.2.2.2 i)⟩
theorem CSame.n {a b : Rec} (h : CSame a b) (k : Nat) : gI b k = gI a k := by unfold gI; rw [h.1]
theorem CSame.inv {a b : Rec} (h : CSame a b) (i : CInv a) : CInv b := by
  obtain ⟨i1, i2, i3, i4, i5, i6, i7⟩ := i
  unfold CInv
  rw [h.n 0, h.n 1]
  exact ⟨i1, i2, i3, i4, fun o => by rw [h.2.1]; exact i5 o, fun o => by rw [h.2.2.2]; exact i6 o, fun o => by rw [h.2.2.1]; exact i7 o⟩
theorem CSame.sA {a : Rec} (k : Nat) (i v : Int32) (h : k ≠ 0 ∧ k ≠ 1 ∧ k ≠ 5) : CSame a (sA a k i v) := by
  refine ⟨rfl, fun x => ?_, fun x => ?_, fun x => ?_⟩ <;> (rw [gA_sA, if_neg]; rintro ⟨e, -⟩; omega)
theorem t0 : (0 : Int32).toInt = 0 := rfl
theorem t1 : (1 : Int32).toInt = 1 := rfl
theorem t2 : (2 : Int32).toInt = 2 := rfl
theorem t3 : (3 : Int32).toInt = 3 := rfl
theorem t8 : (8 : Int32).toInt = 8 := rfl
theorem t16 : (16 : Int32).toInt = 16 := rfl
theorem t64 : (64 : Int32).toInt = 64 := rfl
theorem t65 : (65 : Int32).toInt = 65 := rfl
theorem t512 : (512 : Int32).toInt = 512 := rfl
theorem ix8 {p o : Int32} (hp : 0 ≤ p.toInt ∧ p.toInt < 64) (ho : 0 ≤ o.toInt ∧ o.toInt < 64) : (p * 8 + o).toInt = p.toInt * 8 + o.toInt := by
  have e : (p * 8).toInt = p.toInt * 8 := by rw [ml (by rw [t8]; omega), t8]
  rw [ad (by omega), e]
theorem ix64 {p o : Int32} (hp : 0 ≤ p.toInt ∧ p.toInt < 64) (ho : 0 ≤ o.toInt ∧ o.toInt < 64) : (p * 64 + o).toInt = p.toInt * 64 + o.toInt := by
  have e : (p * 64).toInt = p.toInt * 64 := by rw [ml (by rw [t64]; omega), t64]
  rw [ad (by omega), e]
theorem ix3 {p q o : Int32} (hp : 0 ≤ p.toInt ∧ p.toInt < 64) (hq : 0 ≤ q.toInt ∧ q.toInt < 64) (ho : 0 ≤ o.toInt ∧ o.toInt < 64) : (p * 64 + q * 8 + o).toInt = p.toInt * 64 + q.toInt * 8 + o.toInt := by
  have e : (p * 64).toInt = p.toInt * 64 := by rw [ml (by rw [t64]; omega), t64]
  have e' : (q * 8).toInt = q.toInt * 8 := by rw [ml (by rw [t8]; omega), t8]
  have e2 : (p * 64 + q * 8).toInt = p.toInt * 64 + q.toInt * 8 := by rw [ad (by omega), e, e']
  rw [ad (by omega), e2]
theorem ixm {o s : Int32} (ho : 0 ≤ o.toInt ∧ o.toInt < 64) (hs : 1 ≤ s.toInt ∧ s.toInt < 64) : (o * 8 + s - 1).toInt = o.toInt * 8 + s.toInt - 1 := by
  have e := ix8 ho (o := s) ⟨by omega, hs.2⟩
  rw [sb (by rw [t1]; omega), e, t1]
theorem ixs {p o s : Int32} (hp : 0 ≤ p.toInt ∧ p.toInt < 64) (ho : 0 ≤ o.toInt ∧ o.toInt < 64) (hs : 1 ≤ s.toInt ∧ s.toInt < 64) : (p * 64 + o * 8 + s - 1).toInt = p.toInt * 64 + o.toInt * 8 + s.toInt - 1 := by
  have e := ix3 hp ho (o := s) ⟨by omega, hs.2⟩
  rw [sb (by rw [t1]; omega), e, t1]
theorem ixc {o s d : Int32} (ho : 0 ≤ o.toInt ∧ o.toInt < 8) (hs : 1 ≤ s.toInt ∧ s.toInt ≤ 8) (hd : 0 ≤ d.toInt ∧ d.toInt < 64) : ((o * 8 + s - 1) * 8 + d).toInt = (o.toInt * 8 + s.toInt - 1) * 8 + d.toInt := by
  have e := ixm (o := o) (s := s) (by omega) (by omega)
  rw [ix8 (by omega) hd, e]
theorem vp_in {ob : Rec} {p : Int32} (h : 0 ≤ p.toInt ∧ p.toInt < (gI ob 0).toInt) : X_validProc ob p = some 1 := by
  have h0 : ¬ p < 0 := by rw [lt_i, t0]; omega
  have h1 : p < gI ob 0 := by rw [lt_i]; omega
  unfold X_validProc; rw [if_neg h0, if_pos h1]
theorem vp_out {ob : Rec} {p : Int32} (h : ¬ (0 ≤ p.toInt ∧ p.toInt < (gI ob 0).toInt)) : X_validProc ob p = some 0 := by
  unfold X_validProc
  by_cases h0 : p < 0
  · rw [if_pos h0]
  · have h1 : ¬ p < gI ob 0 := by rw [lt_i]; rw [lt_i, t0] at h0; omega
    rw [if_neg h0, if_neg h1]
def ExP (ob : Rec) (o s : Int32) : Prop := 0 ≤ o.toInt ∧ o.toInt < (gI ob 0).toInt ∧ 1 ≤ s.toInt ∧ s.toInt ≤ (gA ob 0 o).toInt
theorem ex_in {ob : Rec} {o s : Int32} (i : CInv ob) (h : ExP ob o s) : X_exists ob o s = some 1 := by
  obtain ⟨h1, h2, h3, h4⟩ := h
  have a0 : ¬ o < 0 := by rw [lt_i, t0]; omega
  have a1 : o < gI ob 0 := by rw [lt_i]; omega
  have a2 : ¬ s < 1 := by rw [lt_i, t1]; omega
  have a3 : ¬ gA ob 0 o < s := by rw [lt_i]; omega
  unfold X_exists; rw [if_neg a0, if_pos a1, if_neg a2, chk_ok (by have := i.2.1; rw [t8]; omega), if_neg a3]
theorem ex_out {ob : Rec} {o s : Int32} (i : CInv ob) (h : ¬ ExP ob o s) : X_exists ob o s = some 0 := by
  unfold ExP at h
  unfold X_exists
  by_cases a0 : o < 0
  · rw [if_pos a0]
  · by_cases a1 : o < gI ob 0
    · by_cases a2 : s < 1
      · rw [if_neg a0, if_pos a1, if_pos a2]
      · rw [lt_i] at a1
        rw [lt_i, t0] at a0
        have a3 : gA ob 0 o < s := by rw [lt_i]; rw [lt_i, t1] at a2; omega
        have a0' : ¬ o < 0 := by rw [lt_i, t0]; exact a0
        have a1' : o < gI ob 0 := by rw [lt_i]; exact a1
        rw [if_neg a0', if_pos a1', if_neg a2, chk_ok (by have := i.2.1; rw [t8]; omega), if_pos a3]
    · rw [if_neg a0, if_neg a1]
theorem ex_bd {ob : Rec} {o s : Int32} (i : CInv ob) (h : ExP ob o s) : 0 ≤ o.toInt ∧ o.toInt < 8 ∧ 1 ≤ s.toInt ∧ s.toInt ≤ 8 := by
  obtain ⟨h1, h2, h3, h4⟩ := h
  obtain ⟨i1, i2, i3, i4, i5, -⟩ := i
  have := i5 o
  omega
theorem dl_ok {ob : Rec} {p o s : Int32} (hp : 0 ≤ p.toInt ∧ p.toInt < 8) (ho : 0 ≤ o.toInt ∧ o.toInt < 8) (hs : 1 ≤ s.toInt ∧ s.toInt ≤ 8) : ∃ ob', X_deliverAt ob p o s = some ob' ∧ CSame ob ob' := by
  have e1 := ixs (p := p) (o := o) (s := s) (by omega) (by omega) (by omega)
  have e2 := ix8 (p := p) (o := o) (by omega) (by omega)
  have e3 := ix3 (p := p) (q := p) (o := o) (by omega) (by omega) (by omega)
  have q512 : ∀ A : Option Rec, chk 512 (p * 64 + o * 8 + s - 1) A = A := fun A => chk_ok (by rw [t512]; omega)
  have q64 : ∀ A : Option Rec, chk 64 (p * 8 + o) A = A := fun A => chk_ok (by rw [t64]; omega)
  have q8 : ∀ A : Option Rec, chk 8 p A = A := fun A => chk_ok (by rw [t8]; omega)
  have qk : ∀ A : Option Rec, chk 512 (p * 64 + p * 8 + o) A = A := fun A => chk_ok (by rw [t512]; omega)
  unfold X_deliverAt X_stateIndex
  simp only [Option.bind_some, q512, q64, q8]
  by_cases c1 : gA ob 8 p < 0
  · rw [if_pos c1]
    unfold X_deliverAt_b89 X_knownIndex
    simp only [Option.bind_some, q64, qk]
    exact ⟨_, rfl, ((CSame.sA _ _ _ (by omega)).trans (CSame.sA _ _ _ (by omega))).trans (CSame.sA _ _ _ (by omega))⟩
  · rw [if_neg c1]
    by_cases c2 : gA ob 8 p < 64
    · rw [if_pos c2]
      have e4 := ix64 (p := p) (o := gA ob 8 p) (by omega) (by rw [lt_i, t0] at c1; rw [lt_i, t64] at c2; omega)
      have qq : ∀ A : Option Rec, chk 512 (p * 64 + gA ob 8 p) A = A := fun A => chk_ok (by rw [lt_i, t0] at c1; rw [lt_i, t64] at c2; rw [t512]; omega)
      unfold X_deliverAt_b89 X_knownIndex
      simp only [Option.bind_some, q64, qk, qq]
      exact ⟨_, rfl, ((((CSame.sA _ _ _ (by omega)).trans (CSame.sA _ _ _ (by omega))).trans (CSame.sA _ _ _ (by omega))).trans (CSame.sA _ _ _ (by omega))).trans (CSame.sA _ _ _ (by omega))⟩
    · rw [if_neg c2]
      unfold X_deliverAt_b89 X_knownIndex
      simp only [Option.bind_some, q64, qk]
      exact ⟨_, rfl, ((CSame.sA _ _ _ (by omega)).trans (CSame.sA _ _ _ (by omega))).trans (CSame.sA _ _ _ (by omega))⟩
theorem CInv.copy {ob : Rec} (i : CInv ob) {x v : Int32} (hv : 0 ≤ v.toInt ∧ v.toInt ≤ 3) : CInv (sA ob 5 x v) := by
  obtain ⟨i1, i2, i3, i4, i5, i6, i7⟩ := i
  refine ⟨i1, i2, i3, i4, fun o => by rw [gA_sA, if_neg (by rintro ⟨e, -⟩; omega)]; exact i5 o, fun o => ?_, fun o => by rw [gA_sA, if_neg (by rintro ⟨e, -⟩; omega)]; exact i7 o⟩
  rw [gA_sA]
  split
  · exact hv
  · exact i6 o
theorem succ8 {i : Int32} (h : 0 ≤ i.toInt ∧ i.toInt < 1000) : (i + 1).toInt = i.toInt + 1 := by rw [ad (by rw [t1]; omega), t1]
theorem bc125 (NF : Nat) (p s r : Int32) (hr : 0 ≤ r.toInt ∧ r.toInt < 64) : ∀ (m fuel : Nat) (ob : Rec) (i : Int32), m < fuel → CInv ob → 0 ≤ i.toInt → i.toInt ≤ (gI ob 0).toInt → (gI ob 0).toInt - i.toInt ≤ m → ∃ ob', X_broadcast_l125 NF fuel ob p s r i = some (s, ob') ∧ CInv ob' := by
  intro m
  induction m with
  | zero =>
    intro fuel ob i hf hi h0 h1 h2
    obtain ⟨n, rfl⟩ : ∃ n, fuel = n + 1 := ⟨fuel - 1, by omega⟩
    have hc : ¬ i < gI ob 0 := by rw [lt_i]; omega
    exact ⟨ob, by show X_broadcast_w125 NF _ ob p s r i = _; unfold X_broadcast_w125; rw [if_neg hc], hi⟩
  | succ m ih =>
    intro fuel ob i hf hi h0 h1 h2
    obtain ⟨n, rfl⟩ : ∃ n, fuel = n + 1 := ⟨fuel - 1, by omega⟩
    by_cases hc : i < gI ob 0
    · have hlt : i.toInt < (gI ob 0).toInt := lt_i.mp hc
      have hn := hi.2.1
      have ei := succ8 (i := i) (by omega)
      have ex := ix8 (p := r) (o := i) (by omega) (by omega)
      have q : ∀ A : Option (Int32 × Rec), chk 512 (r * 8 + i) A = A := fun A => chk_ok (by rw [t512]; omega)
      by_cases c : i = p
      · obtain ⟨ob', e, hi'⟩ := ih n (sA ob 5 (r * 8 + i) 0) (i + 1) (by omega) (hi.copy (by decide)) (by omega) (by show _ ≤ (gI ob 0).toInt; omega) (by show (gI ob 0).toInt - _ ≤ _; omega)
        refine ⟨ob', ?_, hi'⟩
        show X_broadcast_w125 NF _ ob p s r i = _
        unfold X_broadcast_w125; rw [if_pos hc, if_pos c, q]; exact e
      · obtain ⟨ob', e, hi'⟩ := ih n (sA ob 5 (r * 8 + i) 1) (i + 1) (by omega) (hi.copy (by decide)) (by omega) (by show _ ≤ (gI ob 0).toInt; omega) (by show (gI ob 0).toInt - _ ≤ _; omega)
        refine ⟨ob', ?_, hi'⟩
        show X_broadcast_w125 NF _ ob p s r i = _
        unfold X_broadcast_w125; rw [if_pos hc, if_neg c, q]; exact e
    · exact ⟨ob, by show X_broadcast_w125 NF _ ob p s r i = _; unfold X_broadcast_w125; rw [if_neg hc], hi⟩
theorem bc64 (NF : Nat) (hNF : 8 < NF) (p s r : Int32) (hp : 0 ≤ p.toInt ∧ p.toInt < 8) (hs : 1 ≤ s.toInt ∧ s.toInt ≤ 8) (hr : 0 ≤ r.toInt ∧ r.toInt < 64) : ∀ (m fuel : Nat) (ob : Rec) (i : Int32), m < fuel → CInv ob → 0 ≤ i.toInt → i.toInt ≤ (gI ob 0).toInt → (gI ob 0).toInt - i.toInt ≤ m → ∃ ob', X_broadcast_l64 NF fuel ob p s r i = some (s, ob') ∧ CInv ob' := by
  have fin : ∀ (ob : Rec), CInv ob → ∃ ob', (chk (512 : Int32) ((r * (8 : Int32)) + p) <| (X_deliverAt (sA ob 4 ((r * (8 : Int32)) + p) s) p p s).bind fun q5 => X_broadcast_l125 NF NF q5 p s r (0 : Int32)) = some (s, ob') ∧ CInv ob' := by
    intro ob hi
    have ex := ix8 (p := r) (o := p) (by omega) (by omega)
    rw [chk_ok (by rw [t512]; omega)]
    obtain ⟨o1, e1, s1⟩ := dl_ok (ob := sA ob 4 (r * 8 + p) s) hp hp hs
    have h1 : CInv o1 := s1.inv ((CSame.sA _ _ _ (by omega)).inv hi)
    rw [e1, Option.bind_some]
    have hn := h1.2.1
    have hn' := h1.1
    exact bc125 NF p s r hr 8 NF o1 0 hNF h1 (by decide) (by rw [t0]; omega) (by rw [t0]; omega)
  intro m
  induction m with
  | zero =>
    intro fuel ob i hf hi h0 h1 h2
    obtain ⟨n, rfl⟩ : ∃ n, fuel = n + 1 := ⟨fuel - 1, by omega⟩
    have hc : ¬ i < gI ob 0 := by rw [lt_i]; omega
    obtain ⟨ob', e, hi'⟩ := fin ob hi
    exact ⟨ob', by show X_broadcast_w64 NF _ ob p s r i = _; unfold X_broadcast_w64; rw [if_neg hc]; exact e, hi'⟩
  | succ m ih =>
    intro fuel ob i hf hi h0 h1 h2
    obtain ⟨n, rfl⟩ : ∃ n, fuel = n + 1 := ⟨fuel - 1, by omega⟩
    by_cases hc : i < gI ob 0
    · have hlt : i.toInt < (gI ob 0).toInt := lt_i.mp hc
      have hn := hi.2.1
      have ei := succ8 (i := i) (by omega)
      have ex := ix8 (p := r) (o := i) (by omega) (by omega)
      have ey := ix8 (p := p) (o := i) (by omega) (by omega)
      obtain ⟨ob', e, hi'⟩ := ih n (sA ob 4 (r * 8 + i) (gA ob 2 (p * 8 + i))) (i + 1) (by omega) ((CSame.sA _ _ _ (by omega)).inv hi) (by omega) (by show _ ≤ (gI ob 0).toInt; omega) (by show (gI ob 0).toInt - _ ≤ _; omega)
      refine ⟨ob', ?_, hi'⟩
      show X_broadcast_w64 NF _ ob p s r i = _
      unfold X_broadcast_w64; rw [if_pos hc, chk_ok (by rw [t64]; omega), chk_ok (by rw [t512]; omega)]; exact e
    · obtain ⟨ob', e, hi'⟩ := fin ob hi
      exact ⟨ob', by show X_broadcast_w64 NF _ ob p s r i = _; unfold X_broadcast_w64; rw [if_neg hc]; exact e, hi'⟩
/-- broadcast: refused with the object as it was, or a number of at least 1 -/
theorem bc_ok (NF : Nat) (hNF : 8 < NF) (ob : Rec) (p : Int32) (hi : CInv ob) : ∃ r ob', X_broadcast NF ob p = some (r, ob') ∧ CInv ob' ∧ ((r.toInt < 0 ∧ ob' = ob) ∨ r = gA ob 0 p + 1 ∧ 1 ≤ r.toInt) := by
  unfold X_broadcast
  by_cases v : 0 ≤ p.toInt ∧ p.toInt < (gI ob 0).toInt
  · have hn := hi.2.1
    rw [vp_in v, Option.bind_some, if_neg (by decide)]
    have q8 : ∀ A : Option (Int32 × Rec), chk 8 p A = A := fun A => chk_ok (by rw [t8]; omega)
    simp only [q8]
    by_cases c1 : gA ob 1 p = 0
    · rw [if_pos c1]
      by_cases c2 : gA ob 0 p < gI ob 1
      · rw [if_pos c2]
        have hs := hi.2.2.2.2.1 p
        have hcap := hi.2.2.2.1
        rw [lt_i] at c2
        have es := succ8 (i := gA ob 0 p) (by omega)
        have em := ixm (o := p) (s := gA ob 0 p + 1) (by omega) (by omega)
        have h1 : CInv (sA ob 0 p (gA ob 0 p + 1)) := by
          obtain ⟨i1, i2, i3, i4, i5, i6, i7⟩ := hi
          refine ⟨i1, i2, i3, i4, fun o => ?_, fun o => by rw [gA_sA, if_neg (by rintro ⟨e, -⟩; omega)]; exact i6 o, fun o => by rw [gA_sA, if_neg (by rintro ⟨e, -⟩; omega)]; exact i7 o⟩
          rw [gA_sA]
          split
          · rw [es]; show _ ∧ _ ≤ (gI ob 1).toInt; omega
          · exact i5 o
        unfold X_msgIndex
        rw [Option.bind_some]
        obtain ⟨ob', e, h2⟩ := bc64 NF hNF p (gA ob 0 p + 1) (p * 8 + (gA ob 0 p + 1) - 1) (by omega) (by omega) (by omega) 8 NF (sA ob 0 p (gA ob 0 p + 1)) 0 hNF h1 (by decide) (by rw [t0]; have := h1.1; omega) (by rw [t0]; have := h1.2.1; omega)
        exact ⟨_, ob', e, h2, Or.inr ⟨rfl, by omega⟩⟩
      · rw [if_neg c2]; exact ⟨_, ob, rfl, hi, Or.inl ⟨by decide, rfl⟩⟩
    · rw [if_neg c1]; exact ⟨_, ob, rfl, hi, Or.inl ⟨by decide, rfl⟩⟩
  · rw [vp_out v, Option.bind_some, if_pos rfl]; exact ⟨_, ob, rfl, hi, Or.inl ⟨by decide, rfl⟩⟩
theorem isd63 (NF : Nat) (ob : Rec) (hi : CInv ob) (p o r : Int32) (hp : 0 ≤ p.toInt ∧ p.toInt < 8) (hr : 0 ≤ r.toInt ∧ r.toInt < 64) : ∀ (m fuel : Nat) (i : Int32), m < fuel → 0 ≤ i.toInt → i.toInt ≤ (gI ob 0).toInt → (gI ob 0).toInt - i.toInt ≤ m → ∃ v, X_isDeliverable_l63 NF ob fuel p o r i = some v ∧ (v = 0 ∨ v = 1) := by
  intro m
  induction m with
  | zero =>
    intro fuel i hf h0 h1 h2
    obtain ⟨n, rfl⟩ : ∃ n, fuel = n + 1 := ⟨fuel - 1, by omega⟩
    have hc : ¬ i < gI ob 0 := by rw [lt_i]; omega
    exact ⟨1, by show X_isDeliverable_w63 NF ob _ p o r i = _; unfold X_isDeliverable_w63; rw [if_neg hc], Or.inr rfl⟩
  | succ m ih =>
    intro fuel i hf h0 h1 h2
    obtain ⟨n, rfl⟩ : ∃ n, fuel = n + 1 := ⟨fuel - 1, by omega⟩
    by_cases hc : i < gI ob 0
    · have hlt : i.toInt < (gI ob 0).toInt := lt_i.mp hc
      have hn := hi.2.1
      have ei := succ8 (i := i) (by omega)
      have ex := ix8 (p := r) (o := i) (by omega) (by omega)
      have ey := ix8 (p := p) (o := i) (by omega) (by omega)
      obtain ⟨v, e, hv⟩ := ih n (i + 1) (by omega) (by omega) (by omega) (by omega)
      by_cases c : i = o
      · exact ⟨v, by show X_isDeliverable_w63 NF ob _ p o r i = _; unfold X_isDeliverable_w63; rw [if_pos hc, if_pos c]; exact e, hv⟩
      · by_cases c2 : gA ob 2 (p * 8 + i) < gA ob 4 (r * 8 + i)
        · exact ⟨0, by show X_isDeliverable_w63 NF ob _ p o r i = _; unfold X_isDeliverable_w63; rw [if_pos hc, if_neg c, chk_ok (by rw [t512]; omega), chk_ok (by rw [t64]; omega), if_pos c2], Or.inl rfl⟩
        · exact ⟨v, by show X_isDeliverable_w63 NF ob _ p o r i = _; unfold X_isDeliverable_w63; rw [if_pos hc, if_neg c, chk_ok (by rw [t512]; omega), chk_ok (by rw [t64]; omega), if_neg c2]; exact e, hv⟩
    · exact ⟨1, by show X_isDeliverable_w63 NF ob _ p o r i = _; unfold X_isDeliverable_w63; rw [if_neg hc], Or.inr rfl⟩
theorem isd_ok (NF : Nat) (hNF : 8 < NF) (ob : Rec) (hi : CInv ob) (p o s : Int32) (hp : 0 ≤ p.toInt ∧ p.toInt < 8) : ∃ v, X_isDeliverable NF ob p o s = some v ∧ (v = 0 ∨ v = 1 ∧ ExP ob o s) := by
  unfold X_isDeliverable
  by_cases h : ExP ob o s
  · have b := ex_bd hi h
    have e1 := ixs (p := p) (o := o) (s := s) (by omega) (by omega) (by omega)
    have e2 := ix8 (p := p) (o := o) (by omega) (by omega)
    have e3 := ixm (o := o) (s := s) (by omega) (by omega)
    rw [ex_in hi h, Option.bind_some, if_neg (by decide)]
    unfold X_stateIndex X_msgIndex
    simp only [Option.bind_some]
    rw [chk_ok (by rw [t512]; omega)]
    by_cases c1 : gA ob 3 (p * 64 + o * 8 + s - 1) = 1
    · rw [if_pos c1, chk_ok (by rw [t64]; omega)]
      by_cases c2 : s = gA ob 2 (p * 8 + o) + 1
      · rw [if_pos c2]
        obtain ⟨v, e, hv⟩ := isd63 NF ob hi p o (o * 8 + s - 1) hp (by omega) 8 NF 0 hNF (by decide) (by rw [t0]; have := hi.1; omega) (by rw [t0]; have := hi.2.1; omega)
        exact ⟨v, e, hv.imp id fun u => ⟨u, h⟩⟩
      · rw [if_neg c2]; exact ⟨0, rfl, Or.inl rfl⟩
    · rw [if_neg c1]; exact ⟨0, rfl, Or.inl rfl⟩
  · rw [ex_out hi h, Option.bind_some, if_pos rfl]; exact ⟨0, rfl, Or.inl rfl⟩
theorem cas19 (NF : Nat) (hNF : 8 < NF) (k4 : Rec → Int32 → Int32 → Int32 → Option (Int32 × Rec)) (ob : Rec) (hi : CInv ob) (p c i3 : Int32) (hp : 0 ≤ p.toInt ∧ p.toInt < 8) (hc : 0 ≤ c.toInt)
    (hk : ∀ ob', CSame ob ob' → ∃ r ob'', k4 ob' p (c + 1) (i3 + 1) = some (r, ob'') ∧ CSame ob ob'' ∧ 0 ≤ r.toInt) : ∀ (m fuel : Nat) (i5 i : Int32), m < fuel → 0 ≤ i.toInt → i.toInt ≤ (gI ob 0).toInt → (gI ob 0).toInt - i.toInt ≤ m → ∃ r ob'', X_cascade_l19 NF k4 fuel ob p c i3 (-1) i5 i = some (r, ob'') ∧ CSame ob ob'' ∧ 0 ≤ r.toInt := by
  intro m
  induction m with
  | zero =>
    intro fuel i5 i hf h0 h1 h2
    obtain ⟨n, rfl⟩ : ∃ n, fuel = n + 1 := ⟨fuel - 1, by omega⟩
    have hl : ¬ i < gI ob 0 := by rw [lt_i]; omega
    refine ⟨c, ob, ?_, CSame.refl _, hc⟩
    show X_cascade_w19 NF k4 _ ob p c i3 (-1) i5 i = _
    unfold X_cascade_w19 X_cascade_b73; rw [if_neg hl, if_pos (by decide)]
  | succ m ih =>
    intro fuel i5 i hf h0 h1 h2
    obtain ⟨n, rfl⟩ : ∃ n, fuel = n + 1 := ⟨fuel - 1, by omega⟩
    by_cases hl : i < gI ob 0
    · have hlt : i.toInt < (gI ob 0).toInt := lt_i.mp hl
      have hn := hi.2.1
      have ei := succ8 (i := i) (by omega)
      have ey := ix8 (p := p) (o := i) (by omega) (by omega)
      obtain ⟨v, ev, hv⟩ := isd_ok NF hNF ob hi p i (gA ob 2 (p * 8 + i) + 1) hp
      rcases hv with rfl | ⟨rfl, hex⟩
      · obtain ⟨r, ob'', e, h⟩ := ih n i5 (i + 1) (by omega) (by omega) (by omega) (by omega)
        refine ⟨r, ob'', ?_, h⟩
        show X_cascade_w19 NF k4 _ ob p c i3 (-1) i5 i = _
        unfold X_cascade_w19; rw [if_pos hl, chk_ok (by rw [t64]; omega), ev, Option.bind_some, if_pos rfl]; exact e
      · have b := ex_bd hi hex
        obtain ⟨o1, e1, s1⟩ := dl_ok (ob := ob) (p := p) (o := i) (s := gA ob 2 (p * 8 + i) + 1) hp (by omega) (by omega)
        obtain ⟨r, ob'', e, h⟩ := hk o1 s1
        refine ⟨r, ob'', ?_, h⟩
        show X_cascade_w19 NF k4 _ ob p c i3 (-1) i5 i = _
        unfold X_cascade_w19 X_cascade_b73; rw [if_pos hl, chk_ok (by rw [t64]; omega), ev, Option.bind_some, if_neg (by decide), if_neg (by rw [lt_i, t0]; omega), e1, Option.bind_some]; exact e
    · refine ⟨c, ob, ?_, CSame.refl _, hc⟩
      show X_cascade_w19 NF k4 _ ob p c i3 (-1) i5 i = _
      unfold X_cascade_w19 X_cascade_b73; rw [if_neg hl, if_pos (by decide)]
theorem cas4 (NF : Nat) (hNF : 8 < NF) (p : Int32) (hp : 0 ≤ p.toInt ∧ p.toInt < 8) : ∀ (m fuel : Nat) (ob : Rec) (c i : Int32), m < fuel → CInv ob → 0 ≤ c.toInt → c.toInt ≤ i.toInt → i.toInt ≤ 65 → 65 - i.toInt ≤ m → ∃ r ob'', X_cascade_l4 NF fuel ob p c i = some (r, ob'') ∧ CSame ob ob'' ∧ 0 ≤ r.toInt := by
  intro m
  induction m with
  | zero =>
    intro fuel ob c i hf hi h0 h1 h2 h3
    obtain ⟨n, rfl⟩ : ∃ n, fuel = n + 1 := ⟨fuel - 1, by omega⟩
    have hl : ¬ i < 65 := by rw [lt_i, t65]; omega
    exact ⟨c, ob, by show X_cascade_w4 NF _ ob p c i = _; unfold X_cascade_w4; rw [if_neg hl], CSame.refl _, h0⟩
  | succ m ih =>
    intro fuel ob c i hf hi h0 h1 h2 h3
    obtain ⟨n, rfl⟩ : ∃ n, fuel = n + 1 := ⟨fuel - 1, by omega⟩
    by_cases hl : i < 65
    · rw [lt_i, t65] at hl
      have ei := succ8 (i := i) (by omega)
      have ec := succ8 (i := c) (by omega)
      obtain ⟨r, ob'', e, h⟩ := cas19 NF hNF (X_cascade_l4 NF n) ob hi p c i hp h0 (fun ob' s' => by
        obtain ⟨r, ob'', e, s2, h⟩ := ih n ob' (c + 1) (i + 1) (by omega) (s'.inv hi) (by omega) (by omega) (by omega) (by omega)
        exact ⟨r, ob'', e, s'.trans s2, h⟩) 8 NF 0 0 hNF (by decide) (by rw [t0]; have := hi.1; omega) (by rw [t0]; have := hi.2.1; omega)
      exact ⟨r, ob'', by show X_cascade_w4 NF _ ob p c i = _; unfold X_cascade_w4; rw [if_pos (by rw [lt_i, t65]; omega)]; exact e, h⟩
    · exact ⟨c, ob, by show X_cascade_w4 NF _ ob p c i = _; unfold X_cascade_w4; rw [if_neg hl], CSame.refl _, h0⟩
theorem cas_ok (NF : Nat) (hNF : 70 < NF) (ob : Rec) (hi : CInv ob) (p : Int32) (hp : 0 ≤ p.toInt ∧ p.toInt < 8) : ∃ r ob'', X_cascade NF ob p = some (r, ob'') ∧ CSame ob ob'' ∧ 0 ≤ r.toInt :=
  cas4 NF (by omega) p hp 65 NF ob 0 0 (by omega) hi (by decide) (by decide) (by decide) (by decide)
/-- what an operation may answer: refused with nothing changed, a duplicate, or a number that isn't negative -/
def COut (ob : Rec) (r : Int32) (ob' : Rec) : Prop := CInv ob' ∧ (r.toInt < 0 ∧ ob' = ob ∨ r = -5 ∨ 0 ≤ r.toInt)
theorem rcv_ok (NF : Nat) (hNF : 70 < NF) (ob : Rec) (hi : CInv ob) (d o s : Int32) : ∃ r ob', X_receive NF ob d o s = some (r, ob') ∧ COut ob r ob' := by
  unfold X_receive
  by_cases v : 0 ≤ d.toInt ∧ d.toInt < (gI ob 0).toInt
  · rw [vp_in v, Option.bind_some, if_neg (by decide)]
    by_cases h : ExP ob o s
    · have b := ex_bd hi h
      have hn := hi.2.1
      have e1 := ixs (p := d) (o := o) (s := s) (by omega) (by omega) (by omega)
      have e2 := ixc (o := o) (s := s) (d := d) (by omega) (by omega) (by omega)
      rw [ex_in hi h, Option.bind_some, if_neg (by decide)]
      have q512 : ∀ A : Option (Int32 × Rec), chk 512 (d * 64 + o * 8 + s - 1) A = A := fun A => chk_ok (by rw [t512]; omega)
      have qc : ∀ A : Option (Int32 × Rec), chk 512 ((o * 8 + s - 1) * 8 + d) A = A := fun A => chk_ok (by rw [t512]; omega)
      have q8 : ∀ A : Option (Int32 × Rec), chk 8 d A = A := fun A => chk_ok (by rw [t8]; omega)
      unfold X_copyIndex X_stateIndex
      simp only [Option.bind_some, q512, qc, q8]
      have hcp := hi.2.2.2.2.2.1 ((o * 8 + s - 1) * 8 + d)
      by_cases c1 : gA ob 1 d = 0
      · rw [if_pos c1]
        by_cases c2 : gA ob 5 ((o * 8 + s - 1) * 8 + d) = 0
        · rw [if_pos c2]; exact ⟨_, ob, rfl, hi, Or.inl ⟨by decide, rfl⟩⟩
        · rw [if_neg c2]
          rw [eq_i32, t0] at c2
          have es : (gA ob 5 ((o * 8 + s - 1) * 8 + d) - 1).toInt = (gA ob 5 ((o * 8 + s - 1) * 8 + d)).toInt - 1 := by rw [sb (by rw [t1]; omega), t1]
          have hi1 : CInv (sA ob 5 ((o * 8 + s - 1) * 8 + d) (gA ob 5 ((o * 8 + s - 1) * 8 + d) - 1)) := hi.copy (by omega)
          by_cases c3 : gA ob 3 (d * 64 + o * 8 + s - 1) = 0
          · rw [if_pos c3]
            obtain ⟨r, ob', e, sm, hr⟩ := cas_ok NF hNF (sA (sA ob 5 ((o * 8 + s - 1) * 8 + d) (gA ob 5 ((o * 8 + s - 1) * 8 + d) - 1)) 3 (d * 64 + o * 8 + s - 1) 1) ((CSame.sA _ _ _ (by omega)).inv hi1) d (by omega)
            refine ⟨r, ob', by rw [e]; rfl, sm.inv ((CSame.sA _ _ _ (by omega)).inv hi1), Or.inr (Or.inr hr)⟩
          · rw [if_neg c3]; exact ⟨_, _, rfl, hi1, Or.inr (Or.inl rfl)⟩
      · rw [if_neg c1]; exact ⟨_, ob, rfl, hi, Or.inl ⟨by decide, rfl⟩⟩
    · rw [ex_out hi h, Option.bind_some, if_pos rfl]; exact ⟨_, ob, rfl, hi, Or.inl ⟨by decide, rfl⟩⟩
  · rw [vp_out v, Option.bind_some, if_pos rfl]; exact ⟨_, ob, rfl, hi, Or.inl ⟨by decide, rfl⟩⟩
theorem dup_ok (ob : Rec) (hi : CInv ob) (o s d : Int32) : ∃ r ob', X_duplicate ob o s d = some (r, ob') ∧ COut ob r ob' := by
  unfold X_duplicate
  by_cases h : ExP ob o s
  · have b := ex_bd hi h
    have hn := hi.2.1
    rw [ex_in hi h, Option.bind_some, if_neg (by decide)]
    by_cases v : 0 ≤ d.toInt ∧ d.toInt < (gI ob 0).toInt
    · have e2 := ixc (o := o) (s := s) (d := d) (by omega) (by omega) (by omega)
      have qc : ∀ A : Option (Int32 × Rec), chk 512 ((o * 8 + s - 1) * 8 + d) A = A := fun A => chk_ok (by rw [t512]; omega)
      rw [vp_in v, Option.bind_some, if_neg (by decide)]
      unfold X_copyIndex
      simp only [Option.bind_some, qc]
      have hcp := hi.2.2.2.2.2.1 ((o * 8 + s - 1) * 8 + d)
      by_cases c2 : gA ob 5 ((o * 8 + s - 1) * 8 + d) = 0
      · rw [if_pos c2]; exact ⟨_, ob, rfl, hi, Or.inl ⟨by decide, rfl⟩⟩
      · rw [if_neg c2]
        by_cases c3 : gA ob 5 ((o * 8 + s - 1) * 8 + d) < 3
        · rw [if_pos c3]
          rw [lt_i, t3] at c3
          have es := succ8 (i := gA ob 5 ((o * 8 + s - 1) * 8 + d)) (by omega)
          refine ⟨_, _, rfl, hi.copy (by omega), Or.inr (Or.inr ?_)⟩
          rw [gA_sA, if_pos ⟨rfl, rfl⟩]; omega
        · rw [if_neg c3]; exact ⟨_, ob, rfl, hi, Or.inl ⟨by decide, rfl⟩⟩
    · rw [vp_out v, Option.bind_some, if_pos rfl]; exact ⟨_, ob, rfl, hi, Or.inl ⟨by decide, rfl⟩⟩
  · rw [ex_out hi h, Option.bind_some, if_pos rfl]; exact ⟨_, ob, rfl, hi, Or.inl ⟨by decide, rfl⟩⟩
theorem drop_ok (ob : Rec) (hi : CInv ob) (o s d : Int32) : ∃ r ob', X_drop ob o s d = some (r, ob') ∧ COut ob r ob' := by
  unfold X_drop
  by_cases h : ExP ob o s
  · have b := ex_bd hi h
    have hn := hi.2.1
    rw [ex_in hi h, Option.bind_some, if_neg (by decide)]
    by_cases v : 0 ≤ d.toInt ∧ d.toInt < (gI ob 0).toInt
    · have e2 := ixc (o := o) (s := s) (d := d) (by omega) (by omega) (by omega)
      have qc : ∀ A : Option (Int32 × Rec), chk 512 ((o * 8 + s - 1) * 8 + d) A = A := fun A => chk_ok (by rw [t512]; omega)
      rw [vp_in v, Option.bind_some, if_neg (by decide)]
      unfold X_copyIndex
      simp only [Option.bind_some, qc]
      have hcp := hi.2.2.2.2.2.1 ((o * 8 + s - 1) * 8 + d)
      by_cases c2 : gA ob 5 ((o * 8 + s - 1) * 8 + d) = 0
      · rw [if_pos c2]; exact ⟨_, ob, rfl, hi, Or.inl ⟨by decide, rfl⟩⟩
      · rw [if_neg c2]
        rw [eq_i32, t0] at c2
        have es : (gA ob 5 ((o * 8 + s - 1) * 8 + d) - 1).toInt = (gA ob 5 ((o * 8 + s - 1) * 8 + d)).toInt - 1 := by rw [sb (by rw [t1]; omega), t1]
        refine ⟨_, _, rfl, hi.copy (by omega), Or.inr (Or.inr ?_)⟩
        rw [gA_sA, if_pos ⟨rfl, rfl⟩]; omega
    · rw [vp_out v, Option.bind_some, if_pos rfl]; exact ⟨_, ob, rfl, hi, Or.inl ⟨by decide, rfl⟩⟩
  · rw [ex_out hi h, Option.bind_some, if_pos rfl]; exact ⟨_, ob, rfl, hi, Or.inl ⟨by decide, rfl⟩⟩
theorem rtx_ok (ob : Rec) (hi : CInv ob) (q p o s : Int32) : ∃ r ob', X_retransmit ob q p o s = some (r, ob') ∧ COut ob r ob' := by
  unfold X_retransmit
  have hn := hi.2.1
  by_cases v : 0 ≤ q.toInt ∧ q.toInt < (gI ob 0).toInt
  · rw [vp_in v, Option.bind_some, if_neg (by decide)]
    by_cases v2 : 0 ≤ p.toInt ∧ p.toInt < (gI ob 0).toInt
    · rw [vp_in v2, Option.bind_some, if_neg (by decide)]
      by_cases c : q = p
      · rw [if_pos c]; exact ⟨_, ob, rfl, hi, Or.inl ⟨by decide, rfl⟩⟩
      · rw [if_neg c]
        by_cases h : ExP ob o s
        · have b := ex_bd hi h
          have e1 := ixs (p := q) (o := o) (s := s) (by omega) (by omega) (by omega)
          have e2 := ixc (o := o) (s := s) (d := p) (by omega) (by omega) (by omega)
          rw [ex_in hi h, Option.bind_some, if_neg (by decide)]
          have q512 : ∀ A : Option (Int32 × Rec), chk 512 (q * 64 + o * 8 + s - 1) A = A := fun A => chk_ok (by rw [t512]; omega)
          have qc : ∀ A : Option (Int32 × Rec), chk 512 ((o * 8 + s - 1) * 8 + p) A = A := fun A => chk_ok (by rw [t512]; omega)
          have q8 : ∀ A : Option (Int32 × Rec), chk 8 q A = A := fun A => chk_ok (by rw [t8]; omega)
          have q8' : ∀ A : Option (Int32 × Rec), chk 8 p A = A := fun A => chk_ok (by rw [t8]; omega)
          unfold X_copyIndex X_stateIndex
          simp only [Option.bind_some, q512, qc, q8, q8']
          have hcp := hi.2.2.2.2.2.1 ((o * 8 + s - 1) * 8 + p)
          by_cases c1 : gA ob 1 q = 0
          · rw [if_pos c1]
            by_cases c2 : gA ob 1 p = 0
            · rw [if_pos c2]
              by_cases c3 : gA ob 3 (q * 64 + o * 8 + s - 1) = 2
              · rw [if_pos c3]
                by_cases c4 : gA ob 5 ((o * 8 + s - 1) * 8 + p) < 3
                · rw [if_pos c4]
                  rw [lt_i, t3] at c4
                  have es := succ8 (i := gA ob 5 ((o * 8 + s - 1) * 8 + p)) (by omega)
                  exact ⟨_, _, rfl, hi.copy (by omega), Or.inr (Or.inr (by decide))⟩
                · rw [if_neg c4]; exact ⟨_, ob, rfl, hi, Or.inl ⟨by decide, rfl⟩⟩
              · rw [if_neg c3]; exact ⟨_, ob, rfl, hi, Or.inl ⟨by decide, rfl⟩⟩
            · rw [if_neg c2]; exact ⟨_, ob, rfl, hi, Or.inl ⟨by decide, rfl⟩⟩
          · rw [if_neg c1]; exact ⟨_, ob, rfl, hi, Or.inl ⟨by decide, rfl⟩⟩
        · rw [ex_out hi h, Option.bind_some, if_pos rfl]; exact ⟨_, ob, rfl, hi, Or.inl ⟨by decide, rfl⟩⟩
    · rw [vp_out v2, Option.bind_some, if_pos rfl]; exact ⟨_, ob, rfl, hi, Or.inl ⟨by decide, rfl⟩⟩
  · rw [vp_out v, Option.bind_some, if_pos rfl]; exact ⟨_, ob, rfl, hi, Or.inl ⟨by decide, rfl⟩⟩
theorem gos57 (NF : Nat) (k46 : Rec → Int32 → Int32 → Int32 → Option (Int32 × Rec)) (a b r : Int32) (ha : 0 ≤ a.toInt ∧ a.toInt < 8) (hb : 0 ≤ b.toInt ∧ b.toInt < 8) (hr : 0 ≤ r.toInt ∧ r.toInt < 8) : ∀ (m fuel : Nat) (ob : Rec) (i : Int32), m < fuel → CInv ob → 0 ≤ i.toInt → i.toInt ≤ (gI ob 0).toInt → (gI ob 0).toInt - i.toInt ≤ m → ∃ ob', X_gossip_l57 NF k46 fuel ob a b r i = k46 ob' a b (r + 1) ∧ CSame ob ob' := by
  intro m
  induction m with
  | zero =>
    intro fuel ob i hf hi h0 h1 h2
    obtain ⟨n, rfl⟩ : ∃ n, fuel = n + 1 := ⟨fuel - 1, by omega⟩
    have hc : ¬ i < gI ob 0 := by rw [lt_i]; omega
    exact ⟨ob, by show X_gossip_w57 NF k46 _ ob a b r i = _; unfold X_gossip_w57; rw [if_neg hc], CSame.refl _⟩
  | succ m ih =>
    intro fuel ob i hf hi h0 h1 h2
    obtain ⟨n, rfl⟩ : ∃ n, fuel = n + 1 := ⟨fuel - 1, by omega⟩
    by_cases hc : i < gI ob 0
    · have hlt : i.toInt < (gI ob 0).toInt := lt_i.mp hc
      have hn := hi.2.1
      have ei := succ8 (i := i) (by omega)
      have ex := ix3 (p := a) (q := r) (o := i) (by omega) (by omega) (by omega)
      have ey := ix3 (p := b) (q := r) (o := i) (by omega) (by omega) (by omega)
      have qa : ∀ A : Option (Int32 × Rec), chk 512 (a * 64 + r * 8 + i) A = A := fun A => chk_ok (by rw [t512]; omega)
      have qb : ∀ A : Option (Int32 × Rec), chk 512 (b * 64 + r * 8 + i) A = A := fun A => chk_ok (by rw [t512]; omega)
      by_cases c : gA ob 6 (b * 64 + r * 8 + i) < gA ob 6 (a * 64 + r * 8 + i)
      · have sm : CSame ob (sA ob 6 (b * 64 + r * 8 + i) (gA ob 6 (a * 64 + r * 8 + i))) := CSame.sA _ _ _ (by omega)
        obtain ⟨ob', e, s'⟩ := ih n (sA ob 6 (b * 64 + r * 8 + i) (gA ob 6 (a * 64 + r * 8 + i))) (i + 1) (by omega) (sm.inv hi) (by omega) (by show _ ≤ (gI ob 0).toInt; omega) (by show (gI ob 0).toInt - _ ≤ _; omega)
        refine ⟨ob', ?_, sm.trans s'⟩
        show X_gossip_w57 NF k46 _ ob a b r i = _
        unfold X_gossip_w57; simp only [qa, qb]; rw [if_pos hc, if_pos c]; exact e
      · obtain ⟨ob', e, s'⟩ := ih n ob (i + 1) (by omega) hi (by omega) (by omega) (by omega)
        refine ⟨ob', ?_, s'⟩
        show X_gossip_w57 NF k46 _ ob a b r i = _
        unfold X_gossip_w57; simp only [qa, qb]; rw [if_pos hc, if_neg c]; exact e
    · exact ⟨ob, by show X_gossip_w57 NF k46 _ ob a b r i = _; unfold X_gossip_w57; rw [if_neg hc], CSame.refl _⟩
theorem gos46 (NF : Nat) (hNF : 8 < NF) (a b : Int32) (ha : 0 ≤ a.toInt ∧ a.toInt < 8) (hb : 0 ≤ b.toInt ∧ b.toInt < 8) : ∀ (m fuel : Nat) (ob : Rec) (i : Int32), m < fuel → CInv ob → 0 ≤ i.toInt → i.toInt ≤ (gI ob 0).toInt → (gI ob 0).toInt - i.toInt ≤ m → ∃ ob', X_gossip_l46 NF fuel ob a b i = some (0, ob') ∧ CSame ob ob' := by
  intro m
  induction m with
  | zero =>
    intro fuel ob i hf hi h0 h1 h2
    obtain ⟨n, rfl⟩ : ∃ n, fuel = n + 1 := ⟨fuel - 1, by omega⟩
    have hc : ¬ i < gI ob 0 := by rw [lt_i]; omega
    exact ⟨ob, by show X_gossip_w46 NF _ ob a b i = _; unfold X_gossip_w46; rw [if_neg hc], CSame.refl _⟩
  | succ m ih =>
    intro fuel ob i hf hi h0 h1 h2
    obtain ⟨n, rfl⟩ : ∃ n, fuel = n + 1 := ⟨fuel - 1, by omega⟩
    by_cases hc : i < gI ob 0
    · have hlt : i.toInt < (gI ob 0).toInt := lt_i.mp hc
      have hn := hi.2.1
      have ei := succ8 (i := i) (by omega)
      obtain ⟨o1, e1, s1⟩ := gos57 NF (X_gossip_l46 NF n) a b i ha hb (by omega) 8 NF ob 0 hNF hi (by decide) (by rw [t0]; omega) (by rw [t0]; omega)
      have en := s1.n 0
      obtain ⟨ob', e, s'⟩ := ih n o1 (i + 1) (by omega) (s1.inv hi) (by omega) (by rw [en]; omega) (by rw [en]; omega)
      exact ⟨ob', by show X_gossip_w46 NF _ ob a b i = _; unfold X_gossip_w46; rw [if_pos hc, e1]; exact e, s1.trans s'⟩
    · exact ⟨ob, by show X_gossip_w46 NF _ ob a b i = _; unfold X_gossip_w46; rw [if_neg hc], CSame.refl _⟩
theorem gos_ok (NF : Nat) (hNF : 8 < NF) (ob : Rec) (hi : CInv ob) (a b : Int32) : ∃ r ob', X_gossip NF ob a b = some (r, ob') ∧ COut ob r ob' := by
  unfold X_gossip
  have hn := hi.2.1
  by_cases v : 0 ≤ a.toInt ∧ a.toInt < (gI ob 0).toInt
  · rw [vp_in v, Option.bind_some, if_neg (by decide)]
    by_cases v2 : 0 ≤ b.toInt ∧ b.toInt < (gI ob 0).toInt
    · rw [vp_in v2, Option.bind_some, if_neg (by decide)]
      by_cases c : a = b
      · rw [if_pos c]; exact ⟨_, ob, rfl, hi, Or.inl ⟨by decide, rfl⟩⟩
      · rw [if_neg c, chk_ok (by rw [t8]; omega)]
        by_cases c1 : gA ob 1 a = 0
        · rw [if_pos c1, chk_ok (by rw [t8]; omega)]
          by_cases c2 : gA ob 1 b = 0
          · rw [if_pos c2]
            obtain ⟨ob', e, s'⟩ := gos46 NF hNF a b (by omega) (by omega) 8 NF ob 0 hNF hi (by decide) (by rw [t0]; have := hi.1; omega) (by rw [t0]; omega)
            exact ⟨0, ob', e, s'.inv hi, Or.inr (Or.inr (by decide))⟩
          · rw [if_neg c2]; exact ⟨_, ob, rfl, hi, Or.inl ⟨by decide, rfl⟩⟩
        · rw [if_neg c1]; exact ⟨_, ob, rfl, hi, Or.inl ⟨by decide, rfl⟩⟩
    · rw [vp_out v2, Option.bind_some, if_pos rfl]; exact ⟨_, ob, rfl, hi, Or.inl ⟨by decide, rfl⟩⟩
  · rw [vp_out v, Option.bind_some, if_pos rfl]; exact ⟨_, ob, rfl, hi, Or.inl ⟨by decide, rfl⟩⟩
theorem stb3 (NF : Nat) (ob : Rec) (hi : CInv ob) (p o s : Int32) (hp : 0 ≤ p.toInt ∧ p.toInt < 8) (ho : 0 ≤ o.toInt ∧ o.toInt < 8) : ∀ (m fuel : Nat) (i : Int32), m < fuel → 0 ≤ i.toInt → i.toInt ≤ (gI ob 0).toInt → (gI ob 0).toInt - i.toInt ≤ m → ∃ v, X_isStable_l3 NF ob fuel p o s i = some v := by
  intro m
  induction m with
  | zero =>
    intro fuel i hf h0 h1 h2
    obtain ⟨n, rfl⟩ : ∃ n, fuel = n + 1 := ⟨fuel - 1, by omega⟩
    have hc : ¬ i < gI ob 0 := by rw [lt_i]; omega
    exact ⟨1, by show X_isStable_w3 NF ob _ p o s i = _; unfold X_isStable_w3; rw [if_neg hc]⟩
  | succ m ih =>
    intro fuel i hf h0 h1 h2
    obtain ⟨n, rfl⟩ : ∃ n, fuel = n + 1 := ⟨fuel - 1, by omega⟩
    by_cases hc : i < gI ob 0
    · have hlt : i.toInt < (gI ob 0).toInt := lt_i.mp hc
      have hn := hi.2.1
      have ei := succ8 (i := i) (by omega)
      have ex := ix3 (p := p) (q := i) (o := o) (by omega) (by omega) (by omega)
      obtain ⟨v, e⟩ := ih n (i + 1) (by omega) (by omega) (by omega) (by omega)
      by_cases c : gA ob 1 i = 0
      · by_cases c2 : gA ob 6 (p * 64 + i * 8 + o) < s
        · exact ⟨0, by show X_isStable_w3 NF ob _ p o s i = _; unfold X_isStable_w3 X_knownIndex; rw [if_pos hc, chk_ok (by rw [t8]; omega), if_pos c, Option.bind_some, chk_ok (by rw [t512]; omega), if_pos c2]⟩
        · exact ⟨v, by show X_isStable_w3 NF ob _ p o s i = _; unfold X_isStable_w3 X_knownIndex; rw [if_pos hc, chk_ok (by rw [t8]; omega), if_pos c, Option.bind_some, chk_ok (by rw [t512]; omega), if_neg c2]; exact e⟩
      · exact ⟨v, by show X_isStable_w3 NF ob _ p o s i = _; unfold X_isStable_w3; rw [if_pos hc, chk_ok (by rw [t8]; omega), if_neg c]; exact e⟩
    · exact ⟨1, by show X_isStable_w3 NF ob _ p o s i = _; unfold X_isStable_w3; rw [if_neg hc]⟩
theorem stb_ok (NF : Nat) (hNF : 8 < NF) (ob : Rec) (hi : CInv ob) (p o s : Int32) (hp : 0 ≤ p.toInt ∧ p.toInt < 8) (ho : 0 ≤ o.toInt ∧ o.toInt < 8) : ∃ v, X_isStable NF ob p o s = some v :=
  stb3 NF ob hi p o s hp ho 8 NF 0 hNF (by decide) (by rw [t0]; have := hi.1; omega) (by rw [t0]; have := hi.2.1; omega)
theorem prn45 (NF : Nat) (hNF : 8 < NF) (k26 : Rec → Int32 → Int32 → Int32 → Option (Int32 × Rec)) (p o top : Int32) (hp : 0 ≤ p.toInt ∧ p.toInt < 8) (ho : 0 ≤ o.toInt ∧ o.toInt < 8) : ∀ (m fuel : Nat) (ob : Rec) (c i : Int32), m < fuel → CInv ob → 0 ≤ c.toInt → c.toInt + (9 - i.toInt) < 900 → 1 ≤ i.toInt → i.toInt ≤ 9 → 9 - i.toInt ≤ m → ∃ ob' c', X_prune_l45 NF k26 fuel ob p c o top i = k26 ob' p c' (o + 1) ∧ CSame ob ob' ∧ 0 ≤ c'.toInt ∧ c'.toInt ≤ c.toInt + (9 - i.toInt) := by
  intro m
  induction m with
  | zero =>
    intro fuel ob c i hf hi c0 c9 h0 h1 h2
    obtain ⟨n, rfl⟩ : ∃ n, fuel = n + 1 := ⟨fuel - 1, by omega⟩
    have hc : 8 < i := by rw [lt_i, t8]; omega
    refine ⟨ob, c, ?_, CSame.refl _, c0, by omega⟩
    show X_prune_w45 NF k26 _ ob p c o top i = _
    unfold X_prune_w45
    by_cases q : top < i
    · rw [if_pos q]
    · rw [if_neg q, if_pos hc]
  | succ m ih =>
    intro fuel ob c i hf hi c0 c9 h0 h1 h2
    obtain ⟨n, rfl⟩ : ∃ n, fuel = n + 1 := ⟨fuel - 1, by omega⟩
    by_cases q : top < i
    · exact ⟨ob, c, by show X_prune_w45 NF k26 _ ob p c o top i = _; unfold X_prune_w45; rw [if_pos q], CSame.refl _, c0, by omega⟩
    · by_cases hc : 8 < i
      · exact ⟨ob, c, by show X_prune_w45 NF k26 _ ob p c o top i = _; unfold X_prune_w45; rw [if_neg q, if_pos hc], CSame.refl _, c0, by omega⟩
      · have hlt : i.toInt ≤ 8 := by rw [lt_i, t8] at hc; omega
        have ei := succ8 (i := i) (by omega)
        have ec := succ8 (i := c) (by omega)
        have ex := ixs (p := p) (o := o) (s := i) (by omega) (by omega) (by omega)
        have q512 : ∀ A : Option (Int32 × Rec), chk 512 (p * 64 + o * 8 + i - 1) A = A := fun A => chk_ok (by rw [t512]; omega)
        obtain ⟨o0, c1', e0, s0, a0, b0⟩ := ih n ob c (i + 1) (by omega) hi c0 (by omega) (by omega) (by omega) (by omega)
        by_cases g : gA ob 3 (p * 64 + o * 8 + i - 1) = 2
        · obtain ⟨v, ev⟩ := stb_ok NF hNF ob hi p o i hp ho
          by_cases hv : v = 0
          · refine ⟨o0, c1', ?_, s0, a0, by omega⟩
            show X_prune_w45 NF k26 _ ob p c o top i = _
            unfold X_prune_w45 X_stateIndex; simp only [Option.bind_some, q512]; rw [if_neg q, if_neg hc, if_pos g, ev, Option.bind_some, if_pos hv]; exact e0
          · have sm : CSame ob (sA ob 3 (p * 64 + o * 8 + i - 1) 3) := CSame.sA _ _ _ (by omega)
            obtain ⟨o2, c2', e2, s2, a2, b2⟩ := ih n (sA ob 3 (p * 64 + o * 8 + i - 1) 3) (c + 1) (i + 1) (by omega) (sm.inv hi) (by omega) (by omega) (by omega) (by omega) (by omega)
            refine ⟨o2, c2', ?_, sm.trans s2, a2, by omega⟩
            show X_prune_w45 NF k26 _ ob p c o top i = _
            unfold X_prune_w45 X_stateIndex; simp only [Option.bind_some, q512]; rw [if_neg q, if_neg hc, if_pos g, ev, Option.bind_some, if_neg hv]; exact e2
        · refine ⟨o0, c1', ?_, s0, a0, by omega⟩
          show X_prune_w45 NF k26 _ ob p c o top i = _
          unfold X_prune_w45 X_stateIndex; simp only [Option.bind_some, q512]; rw [if_neg q, if_neg hc, if_neg g]; exact e0
theorem prn26 (NF : Nat) (hNF : 10 < NF) (p : Int32) (hp : 0 ≤ p.toInt ∧ p.toInt < 8) : ∀ (m fuel : Nat) (ob : Rec) (c i : Int32), m < fuel → CInv ob → 0 ≤ c.toInt → c.toInt ≤ 8 * i.toInt → 0 ≤ i.toInt → i.toInt ≤ (gI ob 0).toInt → (gI ob 0).toInt - i.toInt ≤ m → ∃ r ob', X_prune_l26 NF fuel ob p c i = some (r, ob') ∧ CSame ob ob' ∧ 0 ≤ r.toInt := by
  intro m
  induction m with
  | zero =>
    intro fuel ob c i hf hi c0 c9 h0 h1 h2
    obtain ⟨n, rfl⟩ : ∃ n, fuel = n + 1 := ⟨fuel - 1, by omega⟩
    have hc : ¬ i < gI ob 0 := by rw [lt_i]; omega
    exact ⟨c, ob, by show X_prune_w26 NF _ ob p c i = _; unfold X_prune_w26; rw [if_neg hc], CSame.refl _, c0⟩
  | succ m ih =>
    intro fuel ob c i hf hi c0 c9 h0 h1 h2
    obtain ⟨n, rfl⟩ : ∃ n, fuel = n + 1 := ⟨fuel - 1, by omega⟩
    by_cases hc : i < gI ob 0
    · have hlt : i.toInt < (gI ob 0).toInt := lt_i.mp hc
      have hn := hi.2.1
      have ei := succ8 (i := i) (by omega)
      obtain ⟨o1, c1, e1, s1, a1, b1⟩ := prn45 NF (by omega) (X_prune_l26 NF n) p i (gA ob 0 i) hp (by omega) 8 NF ob c 1 (by omega) hi c0 (by rw [t1]; omega) (by decide) (by decide) (by decide)
      rw [t1] at b1
      have en := s1.n 0
      obtain ⟨r, ob', e, s', hr⟩ := ih n o1 c1 (i + 1) (by omega) (s1.inv hi) a1 (by omega) (by omega) (by rw [en]; omega) (by rw [en]; omega)
      exact ⟨r, ob', by show X_prune_w26 NF _ ob p c i = _; unfold X_prune_w26; rw [if_pos hc, chk_ok (by rw [t8]; omega), e1]; exact e, s1.trans s', hr⟩
    · exact ⟨c, ob, by show X_prune_w26 NF _ ob p c i = _; unfold X_prune_w26; rw [if_neg hc], CSame.refl _, c0⟩
theorem prn_ok (NF : Nat) (hNF : 10 < NF) (ob : Rec) (hi : CInv ob) (p : Int32) : ∃ r ob', X_prune NF ob p = some (r, ob') ∧ COut ob r ob' := by
  unfold X_prune
  have hn := hi.2.1
  by_cases v : 0 ≤ p.toInt ∧ p.toInt < (gI ob 0).toInt
  · rw [vp_in v, Option.bind_some, if_neg (by decide), chk_ok (by rw [t8]; omega)]
    by_cases c1 : gA ob 1 p = 0
    · rw [if_pos c1]
      obtain ⟨r, ob', e, s', hr⟩ := prn26 NF hNF p (by omega) 8 NF ob 0 0 (by omega) hi (by decide) (by decide) (by decide) (by rw [t0]; have := hi.1; omega) (by rw [t0]; omega)
      exact ⟨r, ob', e, s'.inv hi, Or.inr (Or.inr hr)⟩
    · rw [if_neg c1]; exact ⟨_, ob, rfl, hi, Or.inl ⟨by decide, rfl⟩⟩
  · rw [vp_out v, Option.bind_some, if_pos rfl]; exact ⟨_, ob, rfl, hi, Or.inl ⟨by decide, rfl⟩⟩
theorem oth2 (NF : Nat) (ob : Rec) (hi : CInv ob) (p : Int32) : ∀ (m fuel : Nat) (i : Int32), m < fuel → 0 ≤ i.toInt → i.toInt ≤ (gI ob 0).toInt → (gI ob 0).toInt - i.toInt ≤ m → ∃ v, X_othersAllCrashed_l2 NF ob fuel p i = some v := by
  intro m
  induction m with
  | zero =>
    intro fuel i hf h0 h1 h2
    obtain ⟨n, rfl⟩ : ∃ n, fuel = n + 1 := ⟨fuel - 1, by omega⟩
    have hc : ¬ i < gI ob 0 := by rw [lt_i]; omega
    exact ⟨1, by show X_othersAllCrashed_w2 NF ob _ p i = _; unfold X_othersAllCrashed_w2; rw [if_neg hc]⟩
  | succ m ih =>
    intro fuel i hf h0 h1 h2
    obtain ⟨n, rfl⟩ : ∃ n, fuel = n + 1 := ⟨fuel - 1, by omega⟩
    by_cases hc : i < gI ob 0
    · have hlt : i.toInt < (gI ob 0).toInt := lt_i.mp hc
      have hn := hi.2.1
      have ei := succ8 (i := i) (by omega)
      obtain ⟨v, e⟩ := ih n (i + 1) (by omega) (by omega) (by omega) (by omega)
      by_cases c : i = p
      · exact ⟨v, by show X_othersAllCrashed_w2 NF ob _ p i = _; unfold X_othersAllCrashed_w2; rw [if_pos hc, if_pos c]; exact e⟩
      · by_cases c2 : gA ob 1 i = 0
        · exact ⟨0, by show X_othersAllCrashed_w2 NF ob _ p i = _; unfold X_othersAllCrashed_w2; rw [if_pos hc, if_neg c, chk_ok (by rw [t8]; omega), if_pos c2]⟩
        · exact ⟨v, by show X_othersAllCrashed_w2 NF ob _ p i = _; unfold X_othersAllCrashed_w2; rw [if_pos hc, if_neg c, chk_ok (by rw [t8]; omega), if_neg c2]; exact e⟩
    · exact ⟨1, by show X_othersAllCrashed_w2 NF ob _ p i = _; unfold X_othersAllCrashed_w2; rw [if_neg hc]⟩
theorem crash_ok (NF : Nat) (hNF : 8 < NF) (ob : Rec) (hi : CInv ob) (p : Int32) : ∃ r ob', X_crash NF ob p = some (r, ob') ∧ COut ob r ob' := by
  unfold X_crash X_othersAllCrashed
  have hn := hi.2.1
  by_cases v : 0 ≤ p.toInt ∧ p.toInt < (gI ob 0).toInt
  · have q8 : ∀ A : Option (Int32 × Rec), chk 8 p A = A := fun A => chk_ok (by rw [t8]; omega)
    simp only [q8]
    rw [vp_in v, Option.bind_some, if_neg (by decide)]
    by_cases c1 : gA ob 1 p = 0
    · rw [if_pos c1]
      obtain ⟨w, e⟩ := oth2 NF ob hi p 8 NF 0 hNF (by decide) (by rw [t0]; have := hi.1; omega) (by rw [t0]; omega)
      rw [e, Option.bind_some]
      by_cases c2 : w = 0
      · rw [if_pos c2]
        refine ⟨_, _, rfl, ?_, Or.inr (Or.inr (by decide))⟩
        obtain ⟨i1, i2, i3, i4, i5, i6, i7⟩ := hi
        refine ⟨i1, i2, i3, i4, fun o => by rw [gA_sA, if_neg (by rintro ⟨e, -⟩; omega)]; exact i5 o, fun o => by rw [gA_sA, if_neg (by rintro ⟨e, -⟩; omega)]; exact i6 o, fun o => ?_⟩
        rw [gA_sA]; split
        · exact Or.inr rfl
        · exact i7 o
      · rw [if_neg c2]; exact ⟨_, ob, rfl, hi, Or.inl ⟨by decide, rfl⟩⟩
    · rw [if_neg c1]; exact ⟨_, ob, rfl, hi, Or.inl ⟨by decide, rfl⟩⟩
  · rw [vp_out v, Option.bind_some, if_pos rfl]; exact ⟨_, ob, rfl, hi, Or.inl ⟨by decide, rfl⟩⟩
theorem g_stamp (ob : Rec) (hi : CInv ob) (o s j : Int32) : ∃ v, X_stamp ob o s j = some v := by
  unfold X_stamp
  by_cases h : ExP ob o s
  · have b := ex_bd hi h
    have hn := hi.2.1
    rw [ex_in hi h, Option.bind_some, if_neg (by decide)]
    by_cases v : 0 ≤ j.toInt ∧ j.toInt < (gI ob 0).toInt
    · have e2 := ixc (o := o) (s := s) (d := j) (by omega) (by omega) (by omega)
      rw [vp_in v, Option.bind_some, if_neg (by decide)]
      unfold X_msgIndex
      rw [Option.bind_some, chk_ok (by rw [t512]; omega)]
      exact ⟨_, rfl⟩
    · rw [vp_out v, Option.bind_some, if_pos rfl]; exact ⟨_, rfl⟩
  · rw [ex_out hi h, Option.bind_some, if_pos rfl]; exact ⟨_, rfl⟩
theorem g_copies (ob : Rec) (hi : CInv ob) (o s j : Int32) : ∃ v, X_copies ob o s j = some v := by
  unfold X_copies
  by_cases h : ExP ob o s
  · have b := ex_bd hi h
    have hn := hi.2.1
    rw [ex_in hi h, Option.bind_some, if_neg (by decide)]
    by_cases v : 0 ≤ j.toInt ∧ j.toInt < (gI ob 0).toInt
    · have e2 := ixc (o := o) (s := s) (d := j) (by omega) (by omega) (by omega)
      rw [vp_in v, Option.bind_some, if_neg (by decide)]
      unfold X_copyIndex
      rw [Option.bind_some, chk_ok (by rw [t512]; omega)]
      exact ⟨_, rfl⟩
    · rw [vp_out v, Option.bind_some, if_pos rfl]; exact ⟨_, rfl⟩
  · rw [ex_out hi h, Option.bind_some, if_pos rfl]; exact ⟨_, rfl⟩
theorem g_state (ob : Rec) (hi : CInv ob) (p o s : Int32) : ∃ v, X_state ob p o s = some v := by
  unfold X_state
  have hn := hi.2.1
  by_cases v : 0 ≤ p.toInt ∧ p.toInt < (gI ob 0).toInt
  · rw [vp_in v, Option.bind_some, if_neg (by decide)]
    by_cases h : ExP ob o s
    · have b := ex_bd hi h
      have e2 := ixs (p := p) (o := o) (s := s) (by omega) (by omega) (by omega)
      rw [ex_in hi h, Option.bind_some, if_neg (by decide)]
      unfold X_stateIndex
      rw [Option.bind_some, chk_ok (by rw [t512]; omega)]
      exact ⟨_, rfl⟩
    · rw [ex_out hi h, Option.bind_some, if_pos rfl]; exact ⟨_, rfl⟩
  · rw [vp_out v, Option.bind_some, if_pos rfl]; exact ⟨_, rfl⟩
theorem g_known (ob : Rec) (hi : CInv ob) (p q o : Int32) : ∃ v, X_known ob p q o = some v := by
  unfold X_known
  have hn := hi.2.1
  by_cases v : 0 ≤ p.toInt ∧ p.toInt < (gI ob 0).toInt
  · rw [vp_in v, Option.bind_some, if_neg (by decide)]
    by_cases v2 : 0 ≤ q.toInt ∧ q.toInt < (gI ob 0).toInt
    · rw [vp_in v2, Option.bind_some, if_neg (by decide)]
      by_cases v3 : 0 ≤ o.toInt ∧ o.toInt < (gI ob 0).toInt
      · have e2 := ix3 (p := p) (q := q) (o := o) (by omega) (by omega) (by omega)
        rw [vp_in v3, Option.bind_some, if_neg (by decide)]
        unfold X_knownIndex
        rw [Option.bind_some, chk_ok (by rw [t512]; omega)]
        exact ⟨_, rfl⟩
      · rw [vp_out v3, Option.bind_some, if_pos rfl]; exact ⟨_, rfl⟩
    · rw [vp_out v2, Option.bind_some, if_pos rfl]; exact ⟨_, rfl⟩
  · rw [vp_out v, Option.bind_some, if_pos rfl]; exact ⟨_, rfl⟩
theorem g_delAt (ob : Rec) (hi : CInv ob) (p i : Int32) : ∃ v, X_deliveredAt ob p i = some v := by
  unfold X_deliveredAt
  have hn := hi.2.1
  by_cases v : 0 ≤ p.toInt ∧ p.toInt < (gI ob 0).toInt
  · rw [vp_in v, Option.bind_some, if_neg (by decide)]
    by_cases c : i < 0
    · rw [if_pos c]; exact ⟨_, rfl⟩
    · rw [if_neg c, chk_ok (by rw [t8]; omega)]
      by_cases c2 : i < gA ob 8 p
      · rw [if_pos c2]
        by_cases c3 : i < 64
        · rw [if_pos c3]
          rw [lt_i, t0] at c
          rw [lt_i, t64] at c3
          have e := ix64 (p := p) (o := i) (by omega) (by omega)
          rw [chk_ok (by rw [t512]; omega)]; exact ⟨_, rfl⟩
        · rw [if_neg c3]; exact ⟨_, rfl⟩
      · rw [if_neg c2]; exact ⟨_, rfl⟩
  · rw [vp_out v, Option.bind_some, if_pos rfl]; exact ⟨_, rfl⟩
theorem g_del (ob : Rec) (hi : CInv ob) (p o : Int32) : ∃ v, X_delivered ob p o = some v := by
  unfold X_delivered
  have hn := hi.2.1
  by_cases v : 0 ≤ p.toInt ∧ p.toInt < (gI ob 0).toInt
  · rw [vp_in v, Option.bind_some, if_neg (by decide)]
    by_cases v3 : 0 ≤ o.toInt ∧ o.toInt < (gI ob 0).toInt
    · have e2 := ix8 (p := p) (o := o) (by omega) (by omega)
      rw [vp_in v3, Option.bind_some, if_neg (by decide), chk_ok (by rw [t64]; omega)]
      exact ⟨_, rfl⟩
    · rw [vp_out v3, Option.bind_some, if_pos rfl]; exact ⟨_, rfl⟩
  · rw [vp_out v, Option.bind_some, if_pos rfl]; exact ⟨_, rfl⟩
theorem g_sent (ob : Rec) (hi : CInv ob) (p : Int32) : ∃ v, X_sent ob p = some v := by
  unfold X_sent
  have hn := hi.2.1
  by_cases v : 0 ≤ p.toInt ∧ p.toInt < (gI ob 0).toInt
  · rw [vp_in v, Option.bind_some, if_neg (by decide), chk_ok (by rw [t8]; omega)]; exact ⟨_, rfl⟩
  · rw [vp_out v, Option.bind_some, if_pos rfl]; exact ⟨_, rfl⟩
theorem g_crashed (ob : Rec) (hi : CInv ob) (p : Int32) : ∃ v, X_isCrashed ob p = some v := by
  unfold X_isCrashed
  have hn := hi.2.1
  by_cases v : 0 ≤ p.toInt ∧ p.toInt < (gI ob 0).toInt
  · rw [vp_in v, Option.bind_some, if_neg (by decide), chk_ok (by rw [t8]; omega)]; exact ⟨_, rfl⟩
  · rw [vp_out v, Option.bind_some, if_pos rfl]; exact ⟨_, rfl⟩
-- USE: cs cs2 cs3
theorem own_get {γ : Type} {A : Option Int32} (h : ∃ v, A = some v) (B C : Option γ) : (A.bind fun x => A.bind fun y => if x = y then B else C) = B := by
  obtain ⟨v, rfl⟩ := h; simp
theorem t9 : (9 : Int32).toInt = 9 := rfl
theorem own_s134 (NF : Nat) (ob : Rec) (hi : CInv ob) (k2 : Int32 → Option Int32) (k71 : Int32 → Int32 → Option Int32) (p o : Int32) : ∀ (m fuel : Nat) (i : Int32), m < fuel → 1 ≤ i.toInt → i.toInt ≤ 9 → 9 - i.toInt ≤ m → L_same_l134 NF ob ob k2 k71 fuel p o i = k71 p (o + 1) := by
  intro m
  induction m with
  | zero =>
    intro fuel i hf h0 h1 h2
    obtain ⟨n', rfl⟩ : ∃ n, fuel = n + 1 := ⟨fuel - 1, by omega⟩
    have hc : 8 < i := by rw [lt_i, t8]; omega
    show L_same_w134 NF ob ob k2 k71 _ p o i = _
    unfold L_same_w134; rw [if_pos hc]
  | succ m ih =>
    intro fuel i hf h0 h1 h2
    obtain ⟨n', rfl⟩ : ∃ n, fuel = n + 1 := ⟨fuel - 1, by omega⟩
    show L_same_w134 NF ob ob k2 k71 _ p o i = _
    unfold L_same_w134
    by_cases hc : 8 < i
    · rw [if_pos hc]
    · rw [lt_i, t8] at hc
      have ei := succ8 (i := i) (by omega)
      rw [if_neg (by rw [lt_i, t8]; omega), own_get (g_state ob hi p o i), own_get (g_copies ob hi o i p), own_get (g_stamp ob hi o i p)]
      exact ih n' (i + 1) (by omega) (by omega) (by omega) (by omega)
theorem own_s97 (NF : Nat) (hNF : 100 < NF) (ob : Rec) (hi : CInv ob) (k2 : Int32 → Option Int32) (k71 : Int32 → Int32 → Option Int32) (p o : Int32) : ∀ (m fuel : Nat) (i : Int32), m < fuel → 0 ≤ i.toInt → i.toInt ≤ 8 → 8 - i.toInt ≤ m → L_same_l97 NF ob ob k2 k71 fuel p o i = k71 p (o + 1) := by
  intro m
  induction m with
  | zero =>
    intro fuel i hf h0 h1 h2
    obtain ⟨n', rfl⟩ : ∃ n, fuel = n + 1 := ⟨fuel - 1, by omega⟩
    have hc : ¬ i < 8 := by rw [lt_i, t8]; omega
    show L_same_w97 NF ob ob k2 k71 _ p o i = _
    unfold L_same_w97; rw [if_neg hc]; exact own_s134 NF ob hi k2 k71 p o 8 NF 1 (by omega) (by decide) (by decide) (by decide)
  | succ m ih =>
    intro fuel i hf h0 h1 h2
    obtain ⟨n', rfl⟩ : ∃ n, fuel = n + 1 := ⟨fuel - 1, by omega⟩
    show L_same_w97 NF ob ob k2 k71 _ p o i = _
    unfold L_same_w97
    by_cases hc : i < 8
    · have hlt := lt_i.mp hc
      rw [t8] at hlt
      have ei := succ8 (i := i) (by omega)
      rw [if_pos hc, own_get (g_known ob hi p i o)]
      exact ih n' (i + 1) (by omega) (by omega) (by omega) (by omega)
    · rw [if_neg hc]; exact own_s134 NF ob hi k2 k71 p o 8 NF 1 (by omega) (by decide) (by decide) (by decide)
theorem own_s71 (NF : Nat) (hNF : 100 < NF) (ob : Rec) (hi : CInv ob) (k2 : Int32 → Option Int32) (p : Int32) : ∀ (m fuel : Nat) (i : Int32), m < fuel → 0 ≤ i.toInt → i.toInt ≤ 8 → 8 - i.toInt ≤ m → L_same_l71 NF ob ob k2 fuel p i = k2 (p + 1) := by
  intro m
  induction m with
  | zero =>
    intro fuel i hf h0 h1 h2
    obtain ⟨n', rfl⟩ : ∃ n, fuel = n + 1 := ⟨fuel - 1, by omega⟩
    have hc : ¬ i < 8 := by rw [lt_i, t8]; omega
    show L_same_w71 NF ob ob k2 _ p i = _
    unfold L_same_w71; rw [if_neg hc]
  | succ m ih =>
    intro fuel i hf h0 h1 h2
    obtain ⟨n', rfl⟩ : ∃ n, fuel = n + 1 := ⟨fuel - 1, by omega⟩
    show L_same_w71 NF ob ob k2 _ p i = _
    unfold L_same_w71
    by_cases hc : i < 8
    · have hlt := lt_i.mp hc
      rw [t8] at hlt
      have ei := succ8 (i := i) (by omega)
      rw [if_pos hc, own_get (g_del ob hi p i), own_s97 NF hNF ob hi k2 _ p i 8 NF 0 (by omega) (by decide) (by decide) (by decide)]
      exact ih n' (i + 1) (by omega) (by omega) (by omega) (by omega)
    · rw [if_neg hc]
theorem own_s40 (NF : Nat) (hNF : 100 < NF) (ob : Rec) (hi : CInv ob) (k2 : Int32 → Option Int32) (p : Int32) : ∀ (m fuel : Nat) (i : Int32), m < fuel → 0 ≤ i.toInt → i.toInt ≤ 64 → 64 - i.toInt ≤ m → L_same_l40 NF ob ob k2 fuel p i = k2 (p + 1) := by
  intro m
  induction m with
  | zero =>
    intro fuel i hf h0 h1 h2
    obtain ⟨n', rfl⟩ : ∃ n, fuel = n + 1 := ⟨fuel - 1, by omega⟩
    have hc : ¬ i < 64 := by rw [lt_i, t64]; omega
    show L_same_w40 NF ob ob k2 _ p i = _
    unfold L_same_w40; rw [if_neg hc]; exact own_s71 NF hNF ob hi k2 p 8 NF 0 (by omega) (by decide) (by decide) (by decide)
  | succ m ih =>
    intro fuel i hf h0 h1 h2
    obtain ⟨n', rfl⟩ : ∃ n, fuel = n + 1 := ⟨fuel - 1, by omega⟩
    show L_same_w40 NF ob ob k2 _ p i = _
    unfold L_same_w40
    by_cases hc : i < 64
    · have hlt := lt_i.mp hc
      rw [t64] at hlt
      have ei := succ8 (i := i) (by omega)
      rw [if_pos hc, own_get (g_delAt ob hi p i)]
      exact ih n' (i + 1) (by omega) (by omega) (by omega) (by omega)
    · rw [if_neg hc]; exact own_s71 NF hNF ob hi k2 p 8 NF 0 (by omega) (by decide) (by decide) (by decide)
theorem own_s2 (NF : Nat) (hNF : 100 < NF) (ob : Rec) (hi : CInv ob)  : ∀ (m fuel : Nat) (i : Int32), m < fuel → 0 ≤ i.toInt → i.toInt ≤ 8 → 8 - i.toInt ≤ m → L_same_l2 NF ob ob  fuel  i = some 1 := by
  intro m
  induction m with
  | zero =>
    intro fuel i hf h0 h1 h2
    obtain ⟨n', rfl⟩ : ∃ n, fuel = n + 1 := ⟨fuel - 1, by omega⟩
    have hc : ¬ i < 8 := by rw [lt_i, t8]; omega
    show L_same_w2 NF ob ob  _  i = _
    unfold L_same_w2; rw [if_neg hc]
  | succ m ih =>
    intro fuel i hf h0 h1 h2
    obtain ⟨n', rfl⟩ : ∃ n, fuel = n + 1 := ⟨fuel - 1, by omega⟩
    show L_same_w2 NF ob ob  _  i = _
    unfold L_same_w2
    by_cases hc : i < 8
    · have hlt := lt_i.mp hc
      rw [t8] at hlt
      have ei := succ8 (i := i) (by omega)
      rw [if_pos hc, own_get (g_crashed ob hi i), own_get (g_sent ob hi i), own_s40 NF hNF ob hi _ i 64 NF 0 (by omega) (by decide) (by decide) (by decide)]
      exact ih n' (i + 1) (by omega) (by omega) (by omega) (by omega)
    · rw [if_neg hc]
theorem own_same (NF : Nat) (hNF : 100 < NF) (ob : Rec) (hi : CInv ob) : L_same NF ob ob = some 1 := own_s2 NF hNF ob hi 8 NF 0 (by omega) (by decide) (by decide) (by decide)
theorem own_step (NF : Nat) (hNF : 100 < NF) (ob : Rec) (hi : CInv ob) (k x y w v : Int32) : ∃ ob', L_step NF ob k x y w v = some ob' ∧ CInv ob' := by
  unfold L_step
  split
  · obtain ⟨r, ob', e, h, -⟩ := bc_ok NF (by omega) ob x hi; rw [e]; exact ⟨ob', rfl, h⟩
  · split
    · obtain ⟨r, ob', e, h, -⟩ := dup_ok ob hi x y w; rw [e]; exact ⟨ob', rfl, h⟩
    · split
      · obtain ⟨r, ob', e, h, -⟩ := drop_ok ob hi x y w; rw [e]; exact ⟨ob', rfl, h⟩
      · split
        · obtain ⟨r, ob', e, h, -⟩ := rtx_ok ob hi x y w v; rw [e]; exact ⟨ob', rfl, h⟩
        · split
          · obtain ⟨r, ob', e, h, -⟩ := gos_ok NF (by omega) ob hi x y; rw [e]; exact ⟨ob', rfl, h⟩
          · split
            · obtain ⟨r, ob', e, h, -⟩ := prn_ok NF (by omega) ob hi x; rw [e]; exact ⟨ob', rfl, h⟩
            · split
              · obtain ⟨r, ob', e, h, -⟩ := crash_ok NF (by omega) ob hi x; rw [e]; exact ⟨ob', rfl, h⟩
              · exact ⟨ob, rfl, hi⟩
/-- a message that is known where it comes: receive and drop leave the same -/
theorem own_rd (NF : Nat) (ob : Rec) (hi : CInv ob) (d o s st : Int32) (hst : X_state ob d o s = some st) (hp : 0 < st) (hcr : X_isCrashed ob d = some 0) : ∃ r r' ob', X_receive NF ob d o s = some (r, ob') ∧ X_drop ob o s d = some (r', ob') := by
  have hn := hi.2.1
  by_cases v : 0 ≤ d.toInt ∧ d.toInt < (gI ob 0).toInt
  · by_cases h : ExP ob o s
    · have b := ex_bd hi h
      have e1 := ixs (p := d) (o := o) (s := s) (by omega) (by omega) (by omega)
      have e2 := ixc (o := o) (s := s) (d := d) (by omega) (by omega) (by omega)
      have q512 : ∀ A : Option (Int32 × Rec), chk 512 (d * 64 + o * 8 + s - 1) A = A := fun A => chk_ok (by rw [t512]; omega)
      have qc : ∀ A : Option (Int32 × Rec), chk 512 ((o * 8 + s - 1) * 8 + d) A = A := fun A => chk_ok (by rw [t512]; omega)
      have q8 : ∀ A : Option (Int32 × Rec), chk 8 d A = A := fun A => chk_ok (by rw [t8]; omega)
      have c1 : gA ob 1 d = 0 := by
        unfold X_isCrashed at hcr
        rw [vp_in v, Option.bind_some, if_neg (by decide), chk_ok (by rw [t8]; omega)] at hcr
        have := Option.some.inj hcr
        rcases hi.2.2.2.2.2.2 d with u | u
        · exact u
        · rw [u] at this; exact absurd this (by decide)
      have c3 : ¬ gA ob 3 (d * 64 + o * 8 + s - 1) = 0 := by
        unfold X_state X_stateIndex at hst
        rw [vp_in v, Option.bind_some, if_neg (by decide), ex_in hi h, Option.bind_some, if_neg (by decide), Option.bind_some, chk_ok (by rw [t512]; omega)] at hst
        have := Option.some.inj hst
        intro u; rw [u] at this; rw [← this] at hp; exact absurd hp (by decide)
      unfold X_receive X_drop X_copyIndex X_stateIndex
      have i10 : ¬ (1 : Int32) = 0 := by decide
      simp only [vp_in v, ex_in hi h, Option.bind_some, q512, qc, q8, if_neg i10, if_pos c1, if_neg c3]
      by_cases c2 : gA ob 5 ((o * 8 + s - 1) * 8 + d) = 0
      · simp only [if_pos c2]; exact ⟨_, _, _, rfl, rfl⟩
      · simp only [if_neg c2]; exact ⟨_, _, _, rfl, rfl⟩
    · exfalso
      unfold X_state at hst
      rw [vp_in v, Option.bind_some, if_neg (by decide), ex_out hi h, Option.bind_some, if_pos rfl] at hst
      have := Option.some.inj hst
      rw [← this] at hp; exact absurd hp (by decide)
  · exfalso
    unfold X_state at hst
    rw [vp_out v, Option.bind_some, if_pos rfl] at hst
    have := Option.some.inj hst
    rw [← this] at hp; exact absurd hp (by decide)
theorem own_w22 (NF : Nat) (hNF : 100 < NF) (z : Int32) (f : Int32 → Int32) (hz : z.toInt ≤ 260) (k22 : Rec → Rec → Int32 → Option Int32) (ob : Rec) (hi : CInv ob) (i : Int32) (h0 : 0 ≤ i.toInt ∧ i.toInt ≤ 300) (hk : (i + 5).toInt ≤ z.toInt → ∀ o, CInv o → k22 o o (i + 5) = some 1) : L_law_w22 NF z f k22 ob ob i = some 1 := by
  unfold L_law_w22
  have t4 : (4 : Int32).toInt = 4 := rfl
  have t5 : (5 : Int32).toInt = 5 := rfl
  have e5 : (i + 5).toInt = i.toInt + 5 := by rw [ad (by rw [t5]; omega), t5]
  have e4 : (i + 4).toInt = i.toInt + 4 := by rw [ad (by rw [t4]; omega), t4]
  have e3 : (i + 3).toInt = i.toInt + 3 := by rw [ad (by rw [t3]; omega), t3]
  have e2 : (i + 2).toInt = i.toInt + 2 := by rw [ad (by rw [t2]; omega), t2]
  have e1 : (i + 1).toInt = i.toInt + 1 := succ8 (by omega)
  by_cases c : z < i + 5
  · rw [if_pos c, own_same NF hNF ob hi]; rfl
  · rw [if_neg c]
    rw [lt_i] at c
    rw [chk_ok (by omega), chk_ok (by omega), chk_ok (by omega), chk_ok (by omega), chk_ok (by omega)]
    have hk' := hk (by omega)
    by_cases c1 : f i &&& 7 = 1
    · rw [if_pos c1]
      obtain ⟨r, ob', e, h, -⟩ := rcv_ok NF (by omega) ob hi (f (i + 1)) (f (i + 2)) (f (i + 3))
      obtain ⟨st, est⟩ := g_state ob hi (f (i + 1)) (f (i + 2)) (f (i + 3))
      obtain ⟨cr, ecr⟩ := g_crashed ob hi (f (i + 1))
      have fin : L_law_b127 NF z f k22 ob' ob i (f (i + 1)) (f (i + 2)) (f (i + 3)) = some 1 := by
        unfold L_law_b127; rw [e]; exact hk' ob' h
      rw [e, est, ecr]
      show (if 0 < st then if cr = 0 then _ else _ else _) = _
      by_cases c2 : 0 < st
      · rw [if_pos c2]
        by_cases c3 : cr = 0
        · rw [if_pos c3]
          obtain ⟨a, b, o2, ea, eb⟩ := own_rd NF ob hi _ _ _ st est c2 (by rw [ecr, c3])
          rw [eb]
          have : o2 = ob' := by rw [ea] at e; exact (Prod.mk.inj (Option.some.inj e)).2
          rw [this]; exact hk' ob' h
        · rw [if_neg c3]; exact fin
      · rw [if_neg c2]; exact fin
    · rw [if_neg c1]
      obtain ⟨ob', e, h⟩ := own_step NF hNF ob hi (f i &&& 7) (f (i + 1)) (f (i + 2)) (f (i + 3)) (f (i + 4))
      rw [e, Option.bind_some, Option.bind_some]; exact hk' ob' h
theorem own_l22 (NF : Nat) (hNF : 100 < NF) (z : Int32) (f : Int32 → Int32) (hz : z.toInt ≤ 260) : ∀ (m fuel : Nat) (ob : Rec) (i : Int32), m < fuel → CInv ob → 0 ≤ i.toInt → i.toInt ≤ 300 → 300 - i.toInt ≤ m → L_law_l22 NF z f fuel ob ob i = some 1 := by
  have t5 : (5 : Int32).toInt = 5 := rfl
  intro m
  induction m with
  | zero =>
    intro fuel ob i hf hi h0 h1 h2
    obtain ⟨n, rfl⟩ : ∃ n, fuel = n + 1 := ⟨fuel - 1, by omega⟩
    have e5 : (i + 5).toInt = i.toInt + 5 := by rw [ad (by rw [t5]; omega), t5]
    show L_law_w22 NF z f _ ob ob i = _
    exact own_w22 NF hNF z f hz _ ob hi i ⟨h0, h1⟩ (fun c => by omega)
  | succ m ih =>
    intro fuel ob i hf hi h0 h1 h2
    obtain ⟨n, rfl⟩ : ∃ n, fuel = n + 1 := ⟨fuel - 1, by omega⟩
    have e5 : (i + 5).toInt = i.toInt + 5 := by rw [ad (by rw [t5]; omega), t5]
    show L_law_w22 NF z f _ ob ob i = _
    exact own_w22 NF hNF z f hz _ ob hi i ⟨h0, h1⟩ (fun c o ho => ih n o (i + 5) (by omega) ho (by omega) (by omega) (by omega))
theorem own_init : ∃ r, X_init 4 3 = some r ∧ CInv r := by
  refine ⟨sI (sI zrec 0 4) 1 3, rfl, by decide, by decide, by decide, by decide, fun _ => ?_, fun _ => ?_, fun _ => Or.inl rfl⟩
  · show 0 ≤ (0 : Int32).toInt ∧ (0 : Int32).toInt ≤ (3 : Int32).toInt; decide
  · show 0 ≤ (0 : Int32).toInt ∧ (0 : Int32).toInt ≤ 3; decide
theorem owed : ∀ (z : Int32) (f : Int32 → Int32), ¬ z < 0 → z ≤ 260 → ∃ NF, L_law NF z f = some 1 := by
  intro z f h0 h1
  refine ⟨500, ?_⟩
  obtain ⟨r, e, hi⟩ := own_init
  unfold L_law
  rw [e, Option.bind_some, Option.bind_some]
  exact own_l22 500 (by omega) z f (le_i.mp h1) 300 500 r 0 (by omega) hi (by decide) (by decide) (by decide)
-- owed : ∀ (z : Int32) (f : Int32 → Int32), ¬ z < 0 → z ≤ 260 → ∃ NF, L_law NF z f = some 1
--COMES--
set_option maxRecDepth 65536 in
set_option maxHeartbeats 4000000 in
theorem comes_1 {Post : Tables → Env → Array Value → State → Outcome → State → Prop} (hpost : ∀ tb e args s v u, (limb_1_1.after args s (.returned v) u = true ∧ limb_1_2.after args s (.returned v) u = true ∧ True) → FrameEnd s (.returned v) u (Jvm.fieldLocs frame_1_writes args s ++ Jvm.arrayLocs frame_1_arrays args s ++ Jvm.staticLocs frame_1_statics s) 48 10752 → Post tb e args s (.returned v) u) :
    ArmFor flags0 classFile x code maxLocals ret World_1 tables_1 room_1 Calls_1 rest_1 Pre_1 Post := by
  intro l hfl _ _ p e ha hc hk s m args below hf hA hF happ hP
  obtain ⟨hcalls, hrest, hpre⟩ := hP
  obtain ⟨-, -, -, hnamed, -, -, -, hat⟩ := (Spec.applies_iff hf).mp happ
  obtain ⟨hg, hn⟩ := and_e (Cond.before_iff.mp (show (Jvm.Cond.and given_1 narrow_1).before args s = true from hpre))
  obtain ⟨hcnt, hg⟩ := and_e hg
  obtain ⟨w0, rfl⟩ : ∃ w0 : Value, args = #[w0] := by
    have hs : args.size = 1 := by simpa [Cond.value, given_1] using hcnt
    obtain ⟨L⟩ := args
    match L, hs with
    | [w0], _ => exact ⟨w0, rfl⟩
  have hw := fun d (hd : d ∈ tables_1) => atoms_spec (ws := Jvm.Cond.code x code maxLocals ret :: tables_1) hat d (List.mem_cons_of_mem _ hd)
  have hfit : Fit s := fun {y c} hc i hi => by
    obtain ⟨ha, rfl⟩ := Array.getElem?_eq_some_iff.mp hc
    have q := List.all_eq_true.mp ((Array.all_eq_true_iff_forall_mem.mp hF) _ (Array.getElem_mem ha)) i (List.mem_range.mpr hi)
    simpa [Array.getElem?_eq_getElem hi] using q
  obtain ⟨n1, n2⟩ := and_e hn
  obtain ⟨sa, ev⟩ := arr_v n1
  obtain rfl : w0 = .ref sa := Option.some.inj ev
  obtain ⟨cl, A⟩ := Arr.start ev n1
  have hsz : cl.slots.size < 2 ^ 31 := by
    rcases Nat.lt_or_ge cl.slots.size (2 ^ 31) with q | q
    · exact q
    · have u : (Term.length (.arg 0)).eval #[.ref sa] s none [] s = none := by
        have v : s.arrayAt? sa = some cl := A.fin (Vm.Alike.refl _)
        have e' : ¬ cl.slots.size < 2 ^ 31 := by omega
        simp only [Term.eval] at ev ⊢
        simp [v, e']
      simp [Cond.value, u] at n2
  obtain ⟨z, hz, F⟩ := Scr.start hfit A hsz
  have hle : z ≤ 260 := by
    have u := len_f (t := .arg 0) (args := #[.ref sa]) (first := s) (o := none) (idx := []) ev (A.fin (Vm.Alike.refl _)) hsz
    rw [hz]; first | (simp only [Cond.value, u] at n2; simpa [Term.eval] using n2) | (simp [Cond.value, u, Term.int_eval] at n2; exact n2) | (simp [Cond.value, u, Term.int_eval] at n2; simpa using n2)
  obtain ⟨NF, hlaw⟩ := owed z (atv cl) F.2.2.1 hle
  have hp := L_law_pay (C := (l, s, s.heap.size, #[.ref sa])) (⟨cl, F, rfl⟩ : ScrF (l, s, s.heap.size, #[.ref sa]) sa z (atv cl)) hlaw hw s.heap (Rep.start s) tables_1
  obtain ⟨n, o, h1, h2, h3, v, L, rfl, ⟨N, G', -, rfl⟩, hq⟩ := hp p e ha hc hk s m _ below hf ((Spec.applies_iff_loose hf).mp happ).1 ⟨rfl, State.Warmed39.refl s, rfl⟩ trivial
  refine ⟨n, _, h1, h2, h3, hpost _ _ _ _ _ _ ⟨Cond.after_iff.mpr rfl, Cond.after_iff.mpr (eq_i res_at (Term.int_eval (1)) rfl), trivial⟩ ⟨hq.1, hq.2.1, (hq.2.2.sift fun y hy => Or.inr (N y hy)).mono (by decide) (by decide)⟩⟩
theorem main_1_1 : Claimed_1_1 := comes_1 fun _ _ _ _ _ _ h hF => ⟨h.1, hF⟩
theorem main_1_2 : Claimed_1_2 := comes_1 fun _ _ _ _ _ _ h hF => ⟨h.2.1, hF⟩
end Jvm.Pilot.@@N@@
namespace Jvm.Pilot.@@N@@
open Jvm Jvm.ClassFile Sem Op Lib Jvm.Free Jvm.Stand Jvm.Pilot.@@N@@.Jvm.D
/-! MADE BY PROGRAM (witnessworld.py) out of the Statement's table words and the real class files: 11 classes; the members and pool entries that the words name. The judged class is class 1, her method 1. -/
namespace start1
open Jvm.ClassFile
def u (s : String) : CpInfo := .utf8 (stringToUtf16 s)
/-- a pool by its gaps: so many unusable entries, then the entry; so many at the end -/
def gap : Nat → List CpInfo → List CpInfo
  | 0, r => r
  | n + 1, r => .unusable :: gap n r
def poolList (es : List (Nat × CpInfo)) (last : Nat) : List CpInfo := es.foldr (fun e r => gap e.1 (e.2 :: r)) (gap last [])
def pool (es : List (Nat × CpInfo)) (last : Nat) : Array CpInfo := ⟨poolList es last⟩
def fileOf (pool : Array CpInfo) (this : Nat) (attrs : Array Attribute := #[]) (ms : Array MethodInfo := #[]) (fl : Nat := 33) (sup : Nat := 0) (ifs : Array Nat := #[]) (fds : Array FieldInfo := #[]) : ClassFile where
  minorVersion := 0
  majorVersion := 65
  constantPool := pool
  accessFlags := fl
  thisClass := this
  superClass := sup
  interfaces := ifs
  fields := fds
  methods := ms
  attributes := attrs
def plain (name : String) (sup : Option ClassId) : Class where
  name := name
  kind := .ordinary
  loader := none
  accessFlags := 33
  super := sup
  interfaces := #[]
  cf := none
  fields := #[]
  methods := #[]
  instanceTypes := #[]
  staticTypes := #[]
  resolved := #[]
  callSites := []
  init := .initialized
  statics := none
  mirror := none

def pool0 : Array CpInfo := pool [(5, u "<init>"), (0, u "()V"), (1, .class_ 10), (1, u "java/lang/Object")] 113

def k0c0 : Code := { maxStack := 0, maxLocals := 1, code := object_method_1_code, exceptionTable := #[], attributes := #[] }
def k0m0 : Method := { name := "<init>", desc := "()V", sig := { parameters := [], returnType := none }, accessFlags := 1, code := some k0c0 }
/-- java/lang/Object -/
def k0 : Class := { plain "java/lang/Object" none with
  accessFlags := 33
  interfaces := #[]
  cf := some (fileOf pool0 8 #[] #[{ accessFlags := 1, nameIndex := 5, descriptorIndex := 6, attributes := #[] }] 33 0 #[] #[])
  fields := #[]
  methods := #[k0m0]
  instanceTypes := #[]
  staticTypes := #[]
  resolved := Array.replicate 124 none
  statics := none }

def pool1 : Array CpInfo := pool [(2, .class_ 4), (1, u "java/lang/Object"), (0, u "<init>"), (0, u "()V"), (0, .class_ 8), (0, u "CausalStable"), (0, .methodref 7 10), (0, .nameAndType 5 11), (0, u "(II)V"), (0, .methodref 7 13), (0, .nameAndType 14 15), (0, u "receive"), (0, u "(III)I"), (0, .methodref 7 17), (0, .nameAndType 18 15), (0, u "state"), (0, .methodref 7 20), (0, .nameAndType 21 22), (0, u "isCrashed"), (0, u "(I)Z"), (0, .methodref 7 24), (0, .nameAndType 25 15), (0, u "drop"), (0, .methodref 27 28), (0, .class_ 29), (0, .nameAndType 30 31), (0, u "CausalStableL5"), (0, u "step"), (0, u "(LCausalStable;IIIII)V"), (0, .methodref 27 33), (0, .nameAndType 34 35), (0, u "same"), (0, u "(LCausalStable;LCausalStable;)Z"), (0, .methodref 7 37), (0, .nameAndType 38 39), (0, u "broadcast"), (0, u "(I)I"), (0, .methodref 7 41), (0, .nameAndType 42 15), (0, u "duplicate"), (0, .methodref 7 44), (0, .nameAndType 45 46), (0, u "retransmit"), (0, u "(IIII)I"), (0, .methodref 7 48), (0, .nameAndType 49 50), (0, u "gossip"), (0, u "(II)I"), (0, .methodref 7 52), (0, .nameAndType 53 39), (0, u "prune"), (0, .methodref 7 55), (0, .nameAndType 56 39), (0, u "crash"), (0, .methodref 7 58), (0, .nameAndType 59 39), (0, u "sent"), (0, .methodref 7 61), (0, .nameAndType 62 50), (0, u "deliveredAt"), (0, .methodref 7 64), (0, .nameAndType 65 50), (0, u "delivered"), (0, .methodref 7 67), (0, .nameAndType 68 15), (0, u "known"), (0, .methodref 7 70), (0, .nameAndType 71 15), (0, u "copies"), (0, .methodref 7 73), (0, .nameAndType 74 15), (0, u "stamp"), (2, u "law"), (0, u "([I)Z")] 5

def k1m0 : Method := { name := "<init>", desc := "()V", sig := { parameters := [], returnType := none }, accessFlags := 1, code := none }
def k1c1 : Code := { maxStack := 6, maxLocals := 11, code := code, exceptionTable := #[], attributes := #[] }
def k1m1 : Method := { name := "law", desc := "([I)Z", sig := { parameters := [(.array .int)], returnType := some .boolean }, accessFlags := 9, code := some k1c1 }
def k1c2 : Code := { maxStack := 5, maxLocals := 6, code := method_3_code, exceptionTable := #[], attributes := #[] }
def k1m2 : Method := { name := "step", desc := "(LCausalStable;IIIII)V", sig := { parameters := [(.object "CausalStable"), .int, .int, .int, .int, .int], returnType := none }, accessFlags := 10, code := some k1c2 }
def k1c3 : Code := { maxStack := 5, maxLocals := 5, code := method_4_code, exceptionTable := #[], attributes := #[] }
def k1m3 : Method := { name := "same", desc := "(LCausalStable;LCausalStable;)Z", sig := { parameters := [(.object "CausalStable"), (.object "CausalStable")], returnType := some .boolean }, accessFlags := 10, code := some k1c3 }
/-- CausalStableL5 -/
def k1 : Class := { plain "CausalStableL5" (some 0) with
  accessFlags := 49
  interfaces := #[]
  cf := some (fileOf pool1 27 #[] #[{ accessFlags := 1, nameIndex := 5, descriptorIndex := 6, attributes := #[] }, { accessFlags := 9, nameIndex := 77, descriptorIndex := 78, attributes := #[] }, { accessFlags := 10, nameIndex := 30, descriptorIndex := 31, attributes := #[] }, { accessFlags := 10, nameIndex := 34, descriptorIndex := 35, attributes := #[] }] 49 2 #[] #[])
  fields := #[]
  methods := #[k1m0, k1m1, k1m2, k1m3]
  instanceTypes := #[]
  staticTypes := #[]
  resolved := Array.replicate 84 none
  statics := none }

def pool2 : Array CpInfo := pool [(1, .methodref 2 3), (0, .class_ 4), (0, .nameAndType 5 6), (0, u "java/lang/Object"), (0, u "<init>"), (0, u "()V"), (0, .fieldref 8 9), (0, .class_ 10), (0, .nameAndType 11 12), (0, u "CausalStable"), (0, u "sentCount"), (0, u "[I"), (0, .fieldref 8 14), (0, .nameAndType 15 16), (0, u "crashedFlag"), (0, u "[Z"), (0, .fieldref 8 18), (0, .nameAndType 19 12), (0, u "del"), (0, .fieldref 8 21), (0, .nameAndType 22 12), (0, u "msgState"), (0, .fieldref 8 24), (0, .nameAndType 25 12), (0, u "stampArr"), (0, .fieldref 8 27), (0, .nameAndType 28 12), (0, u "copyArr"), (0, .fieldref 8 30), (0, .nameAndType 31 12), (0, u "known"), (0, .fieldref 8 33), (0, .nameAndType 34 12), (0, u "list"), (0, .fieldref 8 36), (0, .nameAndType 37 12), (0, u "listLen"), (0, .fieldref 8 39), (0, .nameAndType 40 41), (0, u "n"), (0, u "I"), (0, .fieldref 8 43), (0, .nameAndType 44 41), (0, u "cap"), (0, .methodref 8 46), (0, .nameAndType 47 48), (0, u "stateIndex"), (0, u "(III)I"), (0, .methodref 8 50), (0, .nameAndType 51 48), (0, u "knownIndex"), (0, .methodref 8 53), (0, .nameAndType 54 55), (0, u "exists"), (0, u "(II)Z"), (0, .methodref 8 57), (0, .nameAndType 58 59), (0, u "msgIndex"), (0, u "(II)I"), (0, .methodref 8 61), (0, .nameAndType 62 63), (0, u "isDeliverable"), (0, u "(III)Z"), (0, .methodref 8 65), (0, .nameAndType 66 67), (0, u "deliverAt"), (0, u "(III)V"), (0, .methodref 8 69), (0, .nameAndType 70 71), (0, u "validProc"), (0, u "(I)Z"), (0, .methodref 8 73), (0, .nameAndType 74 48), (0, u "copyIndex"), (0, .methodref 8 76), (0, .nameAndType 77 78), (0, u "cascade"), (0, u "(I)I"), (0, .methodref 8 80), (0, .nameAndType 81 63), (0, u "isStable"), (0, .methodref 8 83), (0, .nameAndType 84 71), (0, u "othersAllCrashed"), (0, u "OK"), (2, u "BAD"), (1, u "CRASHED"), (1, u "FULL"), (1, u "NO_COPY"), (1, u "DUPLICATE"), (1, u "NOT_LOGGED"), (1, u "LAST"), (1, u "NONE"), (0, u "HELD"), (1, u "LOGGED"), (1, u "PRUNED"), (1, u "MAX_COPIES"), (0, u "(II)V"), (3, u "broadcast"), (1, u "receive"), (0, u "duplicate"), (0, u "drop"), (0, u "retransmit"), (0, u "(IIII)I"), (0, u "gossip"), (0, u "prune"), (0, u "crash"), (0, u "sent"), (0, u "stamp"), (0, u "copies"), (0, u "state"), (0, u "delivered"), (0, u "deliveredAt"), (0, u "isCrashed")] 2

def k2c0 : Code := { maxStack := 2, maxLocals := 5, code := prog_1_method_1_code, exceptionTable := #[], attributes := #[] }
def k2m0 : Method := { name := "<init>", desc := "(II)V", sig := { parameters := [.int, .int], returnType := none }, accessFlags := 1, code := some k2c0 }
def k2c1 : Code := { maxStack := 2, maxLocals := 2, code := prog_1_method_2_code, exceptionTable := #[], attributes := #[] }
def k2m1 : Method := { name := "validProc", desc := "(I)Z", sig := { parameters := [.int], returnType := some .boolean }, accessFlags := 2, code := some k2c1 }
def k2c2 : Code := { maxStack := 3, maxLocals := 3, code := prog_1_method_3_code, exceptionTable := #[], attributes := #[] }
def k2m2 : Method := { name := "exists", desc := "(II)Z", sig := { parameters := [.int, .int], returnType := some .boolean }, accessFlags := 2, code := some k2c2 }
def k2c3 : Code := { maxStack := 2, maxLocals := 3, code := prog_1_method_4_code, exceptionTable := #[], attributes := #[] }
def k2m3 : Method := { name := "msgIndex", desc := "(II)I", sig := { parameters := [.int, .int], returnType := some .int }, accessFlags := 2, code := some k2c3 }
def k2c4 : Code := { maxStack := 3, maxLocals := 4, code := prog_1_method_5_code, exceptionTable := #[], attributes := #[] }
def k2m4 : Method := { name := "stateIndex", desc := "(III)I", sig := { parameters := [.int, .int, .int], returnType := some .int }, accessFlags := 2, code := some k2c4 }
def k2c5 : Code := { maxStack := 2, maxLocals := 4, code := prog_1_method_6_code, exceptionTable := #[], attributes := #[] }
def k2m5 : Method := { name := "copyIndex", desc := "(III)I", sig := { parameters := [.int, .int, .int], returnType := some .int }, accessFlags := 2, code := some k2c5 }
def k2c6 : Code := { maxStack := 3, maxLocals := 4, code := prog_1_method_7_code, exceptionTable := #[], attributes := #[] }
def k2m6 : Method := { name := "knownIndex", desc := "(III)I", sig := { parameters := [.int, .int, .int], returnType := some .int }, accessFlags := 2, code := some k2c6 }
def k2c7 : Code := { maxStack := 5, maxLocals := 7, code := prog_1_method_8_code, exceptionTable := #[], attributes := #[] }
def k2m7 : Method := { name := "deliverAt", desc := "(III)V", sig := { parameters := [.int, .int, .int], returnType := none }, accessFlags := 2, code := some k2c7 }
def k2c8 : Code := { maxStack := 4, maxLocals := 7, code := prog_1_method_9_code, exceptionTable := #[], attributes := #[] }
def k2m8 : Method := { name := "isDeliverable", desc := "(III)Z", sig := { parameters := [.int, .int, .int], returnType := some .boolean }, accessFlags := 2, code := some k2c8 }
def k2c9 : Code := { maxStack := 4, maxLocals := 8, code := prog_1_method_10_code, exceptionTable := #[], attributes := #[] }
def k2m9 : Method := { name := "cascade", desc := "(I)I", sig := { parameters := [.int], returnType := some .int }, accessFlags := 2, code := some k2c9 }
def k2c10 : Code := { maxStack := 4, maxLocals := 6, code := prog_1_method_11_code, exceptionTable := #[], attributes := #[] }
def k2m10 : Method := { name := "isStable", desc := "(III)Z", sig := { parameters := [.int, .int, .int], returnType := some .boolean }, accessFlags := 2, code := some k2c10 }
def k2c11 : Code := { maxStack := 2, maxLocals := 3, code := prog_1_method_12_code, exceptionTable := #[], attributes := #[] }
def k2m11 : Method := { name := "othersAllCrashed", desc := "(I)Z", sig := { parameters := [.int], returnType := some .boolean }, accessFlags := 2, code := some k2c11 }
def k2c12 : Code := { maxStack := 5, maxLocals := 5, code := prog_1_method_13_code, exceptionTable := #[], attributes := #[] }
def k2m12 : Method := { name := "broadcast", desc := "(I)I", sig := { parameters := [.int], returnType := some .int }, accessFlags := 1, code := some k2c12 }
def k2c13 : Code := { maxStack := 4, maxLocals := 6, code := prog_1_method_14_code, exceptionTable := #[], attributes := #[] }
def k2m13 : Method := { name := "receive", desc := "(III)I", sig := { parameters := [.int, .int, .int], returnType := some .int }, accessFlags := 1, code := some k2c13 }
def k2c14 : Code := { maxStack := 4, maxLocals := 5, code := prog_1_method_15_code, exceptionTable := #[], attributes := #[] }
def k2m14 : Method := { name := "duplicate", desc := "(III)I", sig := { parameters := [.int, .int, .int], returnType := some .int }, accessFlags := 1, code := some k2c14 }
def k2c15 : Code := { maxStack := 4, maxLocals := 5, code := prog_1_method_16_code, exceptionTable := #[], attributes := #[] }
def k2m15 : Method := { name := "drop", desc := "(III)I", sig := { parameters := [.int, .int, .int], returnType := some .int }, accessFlags := 1, code := some k2c15 }
def k2c16 : Code := { maxStack := 4, maxLocals := 7, code := prog_1_method_17_code, exceptionTable := #[], attributes := #[] }
def k2m16 : Method := { name := "retransmit", desc := "(IIII)I", sig := { parameters := [.int, .int, .int, .int], returnType := some .int }, accessFlags := 1, code := some k2c16 }
def k2c17 : Code := { maxStack := 4, maxLocals := 7, code := prog_1_method_18_code, exceptionTable := #[], attributes := #[] }
def k2m17 : Method := { name := "gossip", desc := "(II)I", sig := { parameters := [.int, .int], returnType := some .int }, accessFlags := 1, code := some k2c17 }
def k2c18 : Code := { maxStack := 4, maxLocals := 7, code := prog_1_method_19_code, exceptionTable := #[], attributes := #[] }
def k2m18 : Method := { name := "prune", desc := "(I)I", sig := { parameters := [.int], returnType := some .int }, accessFlags := 1, code := some k2c18 }
def k2c19 : Code := { maxStack := 3, maxLocals := 2, code := prog_1_method_20_code, exceptionTable := #[], attributes := #[] }
def k2m19 : Method := { name := "crash", desc := "(I)I", sig := { parameters := [.int], returnType := some .int }, accessFlags := 1, code := some k2c19 }
def k2c20 : Code := { maxStack := 2, maxLocals := 2, code := prog_1_method_21_code, exceptionTable := #[], attributes := #[] }
def k2m20 : Method := { name := "sent", desc := "(I)I", sig := { parameters := [.int], returnType := some .int }, accessFlags := 1, code := some k2c20 }
def k2c21 : Code := { maxStack := 3, maxLocals := 5, code := prog_1_method_22_code, exceptionTable := #[], attributes := #[] }
def k2m21 : Method := { name := "stamp", desc := "(III)I", sig := { parameters := [.int, .int, .int], returnType := some .int }, accessFlags := 1, code := some k2c21 }
def k2c22 : Code := { maxStack := 4, maxLocals := 5, code := prog_1_method_23_code, exceptionTable := #[], attributes := #[] }
def k2m22 : Method := { name := "copies", desc := "(III)I", sig := { parameters := [.int, .int, .int], returnType := some .int }, accessFlags := 1, code := some k2c22 }
def k2c23 : Code := { maxStack := 4, maxLocals := 5, code := prog_1_method_24_code, exceptionTable := #[], attributes := #[] }
def k2m23 : Method := { name := "state", desc := "(III)I", sig := { parameters := [.int, .int, .int], returnType := some .int }, accessFlags := 1, code := some k2c23 }
def k2c24 : Code := { maxStack := 3, maxLocals := 3, code := prog_1_method_25_code, exceptionTable := #[], attributes := #[] }
def k2m24 : Method := { name := "delivered", desc := "(II)I", sig := { parameters := [.int, .int], returnType := some .int }, accessFlags := 1, code := some k2c24 }
def k2c25 : Code := { maxStack := 3, maxLocals := 3, code := prog_1_method_26_code, exceptionTable := #[], attributes := #[] }
def k2m25 : Method := { name := "deliveredAt", desc := "(II)I", sig := { parameters := [.int, .int], returnType := some .int }, accessFlags := 1, code := some k2c25 }
def k2c26 : Code := { maxStack := 4, maxLocals := 5, code := prog_1_method_27_code, exceptionTable := #[], attributes := #[] }
def k2m26 : Method := { name := "known", desc := "(III)I", sig := { parameters := [.int, .int, .int], returnType := some .int }, accessFlags := 1, code := some k2c26 }
def k2c27 : Code := { maxStack := 2, maxLocals := 2, code := prog_1_method_28_code, exceptionTable := #[], attributes := #[] }
def k2m27 : Method := { name := "isCrashed", desc := "(I)Z", sig := { parameters := [.int], returnType := some .boolean }, accessFlags := 1, code := some k2c27 }
/-- CausalStable -/
def k2 : Class := { plain "CausalStable" (some 0) with
  accessFlags := 49
  interfaces := #[]
  cf := some (fileOf pool2 8 #[] #[{ accessFlags := 1, nameIndex := 5, descriptorIndex := 110, attributes := #[] }, { accessFlags := 2, nameIndex := 70, descriptorIndex := 71, attributes := #[] }, { accessFlags := 2, nameIndex := 54, descriptorIndex := 55, attributes := #[] }, { accessFlags := 2, nameIndex := 58, descriptorIndex := 59, attributes := #[] }, { accessFlags := 2, nameIndex := 47, descriptorIndex := 48, attributes := #[] }, { accessFlags := 2, nameIndex := 74, descriptorIndex := 48, attributes := #[] }, { accessFlags := 2, nameIndex := 51, descriptorIndex := 48, attributes := #[] }, { accessFlags := 2, nameIndex := 66, descriptorIndex := 67, attributes := #[] }, { accessFlags := 2, nameIndex := 62, descriptorIndex := 63, attributes := #[] }, { accessFlags := 2, nameIndex := 77, descriptorIndex := 78, attributes := #[] }, { accessFlags := 2, nameIndex := 81, descriptorIndex := 63, attributes := #[] }, { accessFlags := 2, nameIndex := 84, descriptorIndex := 71, attributes := #[] }, { accessFlags := 1, nameIndex := 114, descriptorIndex := 78, attributes := #[] }, { accessFlags := 1, nameIndex := 116, descriptorIndex := 48, attributes := #[] }, { accessFlags := 1, nameIndex := 117, descriptorIndex := 48, attributes := #[] }, { accessFlags := 1, nameIndex := 118, descriptorIndex := 48, attributes := #[] }, { accessFlags := 1, nameIndex := 119, descriptorIndex := 120, attributes := #[] }, { accessFlags := 1, nameIndex := 121, descriptorIndex := 59, attributes := #[] }, { accessFlags := 1, nameIndex := 122, descriptorIndex := 78, attributes := #[] }, { accessFlags := 1, nameIndex := 123, descriptorIndex := 78, attributes := #[] }, { accessFlags := 1, nameIndex := 124, descriptorIndex := 78, attributes := #[] }, { accessFlags := 1, nameIndex := 125, descriptorIndex := 48, attributes := #[] }, { accessFlags := 1, nameIndex := 126, descriptorIndex := 48, attributes := #[] }, { accessFlags := 1, nameIndex := 127, descriptorIndex := 48, attributes := #[] }, { accessFlags := 1, nameIndex := 128, descriptorIndex := 59, attributes := #[] }, { accessFlags := 1, nameIndex := 129, descriptorIndex := 59, attributes := #[] }, { accessFlags := 1, nameIndex := 31, descriptorIndex := 48, attributes := #[] }, { accessFlags := 1, nameIndex := 130, descriptorIndex := 71, attributes := #[] }] 49 2 #[] #[{ accessFlags := 25, nameIndex := 85, descriptorIndex := 41, attributes := #[] }, { accessFlags := 25, nameIndex := 88, descriptorIndex := 41, attributes := #[] }, { accessFlags := 25, nameIndex := 90, descriptorIndex := 41, attributes := #[] }, { accessFlags := 25, nameIndex := 92, descriptorIndex := 41, attributes := #[] }, { accessFlags := 25, nameIndex := 94, descriptorIndex := 41, attributes := #[] }, { accessFlags := 25, nameIndex := 96, descriptorIndex := 41, attributes := #[] }, { accessFlags := 25, nameIndex := 98, descriptorIndex := 41, attributes := #[] }, { accessFlags := 25, nameIndex := 100, descriptorIndex := 41, attributes := #[] }, { accessFlags := 25, nameIndex := 102, descriptorIndex := 41, attributes := #[] }, { accessFlags := 25, nameIndex := 103, descriptorIndex := 41, attributes := #[] }, { accessFlags := 25, nameIndex := 105, descriptorIndex := 41, attributes := #[] }, { accessFlags := 25, nameIndex := 107, descriptorIndex := 41, attributes := #[] }, { accessFlags := 25, nameIndex := 109, descriptorIndex := 41, attributes := #[] }, { accessFlags := 2, nameIndex := 40, descriptorIndex := 41, attributes := #[] }, { accessFlags := 2, nameIndex := 44, descriptorIndex := 41, attributes := #[] }, { accessFlags := 2, nameIndex := 11, descriptorIndex := 12, attributes := #[] }, { accessFlags := 2, nameIndex := 15, descriptorIndex := 16, attributes := #[] }, { accessFlags := 2, nameIndex := 19, descriptorIndex := 12, attributes := #[] }, { accessFlags := 2, nameIndex := 22, descriptorIndex := 12, attributes := #[] }, { accessFlags := 2, nameIndex := 25, descriptorIndex := 12, attributes := #[] }, { accessFlags := 2, nameIndex := 28, descriptorIndex := 12, attributes := #[] }, { accessFlags := 2, nameIndex := 31, descriptorIndex := 12, attributes := #[] }, { accessFlags := 2, nameIndex := 34, descriptorIndex := 12, attributes := #[] }, { accessFlags := 2, nameIndex := 37, descriptorIndex := 12, attributes := #[] }])
  fields := #[{ name := "OK", type := .int, accessFlags := 25, slot := 0, constantValue := 0 }, { name := "BAD", type := .int, accessFlags := 25, slot := 1, constantValue := 0 }, { name := "CRASHED", type := .int, accessFlags := 25, slot := 2, constantValue := 0 }, { name := "FULL", type := .int, accessFlags := 25, slot := 3, constantValue := 0 }, { name := "NO_COPY", type := .int, accessFlags := 25, slot := 4, constantValue := 0 }, { name := "DUPLICATE", type := .int, accessFlags := 25, slot := 5, constantValue := 0 }, { name := "NOT_LOGGED", type := .int, accessFlags := 25, slot := 6, constantValue := 0 }, { name := "LAST", type := .int, accessFlags := 25, slot := 7, constantValue := 0 }, { name := "NONE", type := .int, accessFlags := 25, slot := 8, constantValue := 0 }, { name := "HELD", type := .int, accessFlags := 25, slot := 9, constantValue := 0 }, { name := "LOGGED", type := .int, accessFlags := 25, slot := 10, constantValue := 0 }, { name := "PRUNED", type := .int, accessFlags := 25, slot := 11, constantValue := 0 }, { name := "MAX_COPIES", type := .int, accessFlags := 25, slot := 12, constantValue := 0 }, { name := "n", type := .int, accessFlags := 2, slot := 0, constantValue := 0 }, { name := "cap", type := .int, accessFlags := 2, slot := 1, constantValue := 0 }, { name := "sentCount", type := (.array .int), accessFlags := 2, slot := 2, constantValue := 0 }, { name := "crashedFlag", type := (.array .boolean), accessFlags := 2, slot := 3, constantValue := 0 }, { name := "del", type := (.array .int), accessFlags := 2, slot := 4, constantValue := 0 }, { name := "msgState", type := (.array .int), accessFlags := 2, slot := 5, constantValue := 0 }, { name := "stampArr", type := (.array .int), accessFlags := 2, slot := 6, constantValue := 0 }, { name := "copyArr", type := (.array .int), accessFlags := 2, slot := 7, constantValue := 0 }, { name := "known", type := (.array .int), accessFlags := 2, slot := 8, constantValue := 0 }, { name := "list", type := (.array .int), accessFlags := 2, slot := 9, constantValue := 0 }, { name := "listLen", type := (.array .int), accessFlags := 2, slot := 10, constantValue := 0 }]
  methods := #[k2m0, k2m1, k2m2, k2m3, k2m4, k2m5, k2m6, k2m7, k2m8, k2m9, k2m10, k2m11, k2m12, k2m13, k2m14, k2m15, k2m16, k2m17, k2m18, k2m19, k2m20, k2m21, k2m22, k2m23, k2m24, k2m25, k2m26, k2m27]
  instanceTypes := #[.int, .int, (.array .int), (.array .boolean), (.array .int), (.array .int), (.array .int), (.array .int), (.array .int), (.array .int), (.array .int)]
  staticTypes := #[.int, .int, .int, .int, .int, .int, .int, .int, .int, .int, .int, .int, .int]
  resolved := Array.replicate 133 none
  statics := none }

def pool3 : Array CpInfo := pool [(1, u "java/lang/Cloneable"), (0, .class_ 1), (0, u "java/lang/Object"), (0, .class_ 3)] 3

/-- java/lang/Cloneable -/
def k3 : Class := { plain "java/lang/Cloneable" (some 0) with
  accessFlags := 1537
  interfaces := #[]
  cf := some (fileOf pool3 2 #[] #[] 1537 4 #[] #[])
  fields := #[]
  methods := #[]
  instanceTypes := #[]
  staticTypes := #[]
  resolved := Array.replicate 8 none
  statics := none }

def pool4 : Array CpInfo := pool [(1, u "java/io/Serializable"), (0, .class_ 1), (0, u "java/lang/Object"), (0, .class_ 3)] 3

/-- java/io/Serializable -/
def k4 : Class := { plain "java/io/Serializable" (some 0) with
  accessFlags := 1537
  interfaces := #[]
  cf := some (fileOf pool4 2 #[] #[] 1537 4 #[] #[])
  fields := #[]
  methods := #[]
  instanceTypes := #[]
  staticTypes := #[]
  resolved := Array.replicate 8 none
  statics := none }

/-- the primitive boolean -/
def k5 : Class := { plain "boolean" none with kind := .primitive 'Z', accessFlags := 0x411 }
/-- [Z -/
def k6 : Class := { plain "[Z" (some 0) with kind := .array 5 .boolean, interfaces := #[3, 4], accessFlags := 1041 }

/-- the primitive byte -/
def k7 : Class := { plain "byte" none with kind := .primitive 'B', accessFlags := 0x411 }
/-- [B -/
def k8 : Class := { plain "[B" (some 0) with kind := .array 7 .byte, interfaces := #[3, 4], accessFlags := 1041 }

/-- the primitive int -/
def k9 : Class := { plain "int" none with kind := .primitive 'I', accessFlags := 0x411 }
/-- [I -/
def k10 : Class := { plain "[I" (some 0) with kind := .array 9 .int, interfaces := #[3, 4], accessFlags := 1041 }

def heap : Heap := #[{ cls := 10, slots := #[.int 0, .int 3, .int 5], vm := .none }]
def classes : Array Class := #[k0, k1, k2, k3, k4, k5, k6, k7, k8, k9, k10]
def interned : List (Array UInt16 × Addr) := []
def slotsUsed : Nat := 3
def theMethod : MethodId := ⟨1, 1⟩
def args0 : Array Value := #[.ref 0]
def aboutOver (below : List Frame) : State where
  vm := { classes := classes, interned := interned.toArray }
  heap := heap
  slotsUsed := slotsUsed
  threads := #[{ frames := .invoking theMethod args0 :: below }]
def below0 : List Frame := [.native { method := ⟨0, 0⟩, args := #[] }]
def about1 : State := aboutOver below0
def p0 : Program := .bare "" "" ""
def e0 : Env := launch0.env 0 0 0
theorem w_frames : about1.frames = Frame.invoking theMethod args0 :: below0 := rfl
set_option maxRecDepth 65536 in
theorem w_args : argsFit about1.vm theMethod args0 = true := by decide +kernel
set_option maxRecDepth 65536 in
theorem w_heap : heapFits about1 = true := by decide +kernel
set_option maxRecDepth 65536 in
theorem w_runnable : about1.curStatus? = some .runnable := by decide +kernel
set_option maxRecDepth 65536 in
theorem w_alone : about1.alone = true := by decide +kernel
set_option maxRecDepth 65536 in
theorem w_named : about1.methodNamed? x = some theMethod := by decide +kernel
set_option maxRecDepth 65536 in
theorem w_hears : about1.hears theMethod below0 = true := by decide +kernel
set_option maxRecDepth 65536 in
theorem w_ripe : about1.ripe theMethod args0 below0 = true := by decide +kernel
theorem w_running : about1.status = .running := rfl
set_option maxRecDepth 65536 in
theorem w_room : about1.hasRoom e0.platform room_1 = true :=
  launch0.hasRoom_least _ room_1 (by decide +kernel) (by decide +kernel) (by decide +kernel) (by decide +kernel) (by decide +kernel) (by decide +kernel)
theorem allAtoms_all (ts : List Jvm.Cond) (a : Array Jvm.Value) (st : Jvm.State) : (allAtoms ts).before a st = ts.all (fun c => c.before a st) := by
  induction ts with
  | nil => rfl
  | cons c t ih =>
    show (Jvm.Cond.and c (allAtoms t)).before a st = _
    rw [Jvm.Cond.before_and, ih, List.all_cons]
def words1 : List Jvm.Cond := Jvm.Cond.code x code maxLocals ret :: tables_1
/-- a 'code' word, met by the world's own term for the bytes: nothing is compared byte by byte -/
theorem code_word {y : MethodName} {bytes : ByteArray} {mx : Nat} {rt : Option FieldType} {a : Array Value} {s : State} {m : MethodId} {meth : Method} {c : Code} (h1 : s.methodNamed? y = some m) (h2 : s.vm.method? m = some meth) (h3 : meth.code = some c) (h4 : c.code = bytes)
    (h5 : (c.maxLocals == mx && c.exceptionTable.isEmpty && decide (c.maxStack ≤ mostOperands) && decide (meth.sig.returnType = rt) && !meth.locks && decide (parseMethodDescriptor y.desc = some meth.sig)) = true) : (Jvm.Cond.code y bytes mx rt).before a s = true := by
  simp only [Bool.and_eq_true, beq_iff_eq, Bool.not_eq_true', decide_eq_true_eq] at h5
  obtain ⟨⟨⟨⟨⟨g1, g2⟩, g3⟩, g4⟩, g5⟩, g6⟩ := h5
  simp [Cond.before, Cond.holds, Cond.value, h1, h2, h3, h4, g1, g2, g3, g4, g5, g6]
def isCode : Jvm.Cond → Bool
  | .code _ _ _ _ => true
  | _ => false
theorem all_split {L : List Jvm.Cond} {P : Jvm.Cond → Bool} (h1 : L.all (fun c => isCode c || P c) = true) (h2 : ∀ c ∈ L.filter isCode, P c = true) : L.all P = true := by
  refine List.all_eq_true.mpr fun c hc => ?_
  have h := List.all_eq_true.mp h1 c hc
  rcases Bool.eq_false_or_eq_true (isCode c) with hi | hi
  · exact h2 c (List.mem_filter.mpr ⟨hc, hi⟩)
  · simpa [hi] using h
set_option maxRecDepth 65536 in
theorem w_c0 : (Jvm.Cond.code x code maxLocals ret).before args0 about1 = true := code_word (m := ⟨1, 1⟩) (meth := k1m1) (c := k1c1) (by decide +kernel) rfl rfl rfl (by decide +kernel)
set_option maxRecDepth 65536 in
theorem w_c1 : (Jvm.Cond.code ({ cls := "CausalStable", name := "<init>", desc := "(II)V" } : Jvm.MethodName) prog_1_method_1_code (5 : Nat) (Option.none : Option Jvm.ClassFile.FieldType)).before args0 about1 = true := code_word (m := ⟨2, 0⟩) (meth := k2m0) (c := k2c0) (by decide +kernel) rfl rfl rfl (by decide +kernel)
set_option maxRecDepth 65536 in
theorem w_c2 : (Jvm.Cond.code ({ cls := "java/lang/Object", name := "<init>", desc := "()V" } : Jvm.MethodName) object_method_1_code (1 : Nat) (Option.none : Option Jvm.ClassFile.FieldType)).before args0 about1 = true := code_word (m := ⟨0, 0⟩) (meth := k0m0) (c := k0c0) (by decide +kernel) rfl rfl rfl (by decide +kernel)
set_option maxRecDepth 65536 in
theorem w_c3 : (Jvm.Cond.code ({ cls := "CausalStableL5", name := "step", desc := "(LCausalStable;IIIII)V" } : Jvm.MethodName) method_3_code (6 : Nat) (Option.none : Option Jvm.ClassFile.FieldType)).before args0 about1 = true := code_word (m := ⟨1, 2⟩) (meth := k1m2) (c := k1c2) (by decide +kernel) rfl rfl rfl (by decide +kernel)
set_option maxRecDepth 65536 in
theorem w_c4 : (Jvm.Cond.code ({ cls := "CausalStable", name := "drop", desc := "(III)I" } : Jvm.MethodName) prog_1_method_16_code (5 : Nat) (Option.some Jvm.ClassFile.FieldType.int)).before args0 about1 = true := code_word (m := ⟨2, 15⟩) (meth := k2m15) (c := k2c15) (by decide +kernel) rfl rfl rfl (by decide +kernel)
set_option maxRecDepth 65536 in
theorem w_c5 : (Jvm.Cond.code ({ cls := "CausalStable", name := "exists", desc := "(II)Z" } : Jvm.MethodName) prog_1_method_3_code (3 : Nat) (Option.some Jvm.ClassFile.FieldType.boolean)).before args0 about1 = true := code_word (m := ⟨2, 2⟩) (meth := k2m2) (c := k2c2) (by decide +kernel) rfl rfl rfl (by decide +kernel)
set_option maxRecDepth 65536 in
theorem w_c6 : (Jvm.Cond.code ({ cls := "CausalStable", name := "broadcast", desc := "(I)I" } : Jvm.MethodName) prog_1_method_13_code (5 : Nat) (Option.some Jvm.ClassFile.FieldType.int)).before args0 about1 = true := code_word (m := ⟨2, 12⟩) (meth := k2m12) (c := k2c12) (by decide +kernel) rfl rfl rfl (by decide +kernel)
set_option maxRecDepth 65536 in
theorem w_c7 : (Jvm.Cond.code ({ cls := "CausalStable", name := "validProc", desc := "(I)Z" } : Jvm.MethodName) prog_1_method_2_code (2 : Nat) (Option.some Jvm.ClassFile.FieldType.boolean)).before args0 about1 = true := code_word (m := ⟨2, 1⟩) (meth := k2m1) (c := k2c1) (by decide +kernel) rfl rfl rfl (by decide +kernel)
set_option maxRecDepth 65536 in
theorem w_c8 : (Jvm.Cond.code ({ cls := "CausalStable", name := "msgIndex", desc := "(II)I" } : Jvm.MethodName) prog_1_method_4_code (3 : Nat) (Option.some Jvm.ClassFile.FieldType.int)).before args0 about1 = true := code_word (m := ⟨2, 3⟩) (meth := k2m3) (c := k2c3) (by decide +kernel) rfl rfl rfl (by decide +kernel)
set_option maxRecDepth 65536 in
theorem w_c9 : (Jvm.Cond.code ({ cls := "CausalStable", name := "deliverAt", desc := "(III)V" } : Jvm.MethodName) prog_1_method_8_code (7 : Nat) (Option.none : Option Jvm.ClassFile.FieldType)).before args0 about1 = true := code_word (m := ⟨2, 7⟩) (meth := k2m7) (c := k2c7) (by decide +kernel) rfl rfl rfl (by decide +kernel)
set_option maxRecDepth 65536 in
theorem w_c10 : (Jvm.Cond.code ({ cls := "CausalStable", name := "stateIndex", desc := "(III)I" } : Jvm.MethodName) prog_1_method_5_code (4 : Nat) (Option.some Jvm.ClassFile.FieldType.int)).before args0 about1 = true := code_word (m := ⟨2, 4⟩) (meth := k2m4) (c := k2c4) (by decide +kernel) rfl rfl rfl (by decide +kernel)
set_option maxRecDepth 65536 in
theorem w_c11 : (Jvm.Cond.code ({ cls := "CausalStable", name := "knownIndex", desc := "(III)I" } : Jvm.MethodName) prog_1_method_7_code (4 : Nat) (Option.some Jvm.ClassFile.FieldType.int)).before args0 about1 = true := code_word (m := ⟨2, 6⟩) (meth := k2m6) (c := k2c6) (by decide +kernel) rfl rfl rfl (by decide +kernel)
set_option maxRecDepth 65536 in
theorem w_c12 : (Jvm.Cond.code ({ cls := "CausalStable", name := "duplicate", desc := "(III)I" } : Jvm.MethodName) prog_1_method_15_code (5 : Nat) (Option.some Jvm.ClassFile.FieldType.int)).before args0 about1 = true := code_word (m := ⟨2, 14⟩) (meth := k2m14) (c := k2c14) (by decide +kernel) rfl rfl rfl (by decide +kernel)
set_option maxRecDepth 65536 in
theorem w_c13 : (Jvm.Cond.code ({ cls := "CausalStable", name := "receive", desc := "(III)I" } : Jvm.MethodName) prog_1_method_14_code (6 : Nat) (Option.some Jvm.ClassFile.FieldType.int)).before args0 about1 = true := code_word (m := ⟨2, 13⟩) (meth := k2m13) (c := k2c13) (by decide +kernel) rfl rfl rfl (by decide +kernel)
set_option maxRecDepth 65536 in
theorem w_c14 : (Jvm.Cond.code ({ cls := "CausalStable", name := "copyIndex", desc := "(III)I" } : Jvm.MethodName) prog_1_method_6_code (4 : Nat) (Option.some Jvm.ClassFile.FieldType.int)).before args0 about1 = true := code_word (m := ⟨2, 5⟩) (meth := k2m5) (c := k2c5) (by decide +kernel) rfl rfl rfl (by decide +kernel)
set_option maxRecDepth 65536 in
theorem w_c15 : (Jvm.Cond.code ({ cls := "CausalStable", name := "cascade", desc := "(I)I" } : Jvm.MethodName) prog_1_method_10_code (8 : Nat) (Option.some Jvm.ClassFile.FieldType.int)).before args0 about1 = true := code_word (m := ⟨2, 9⟩) (meth := k2m9) (c := k2c9) (by decide +kernel) rfl rfl rfl (by decide +kernel)
set_option maxRecDepth 65536 in
theorem w_c16 : (Jvm.Cond.code ({ cls := "CausalStable", name := "isDeliverable", desc := "(III)Z" } : Jvm.MethodName) prog_1_method_9_code (7 : Nat) (Option.some Jvm.ClassFile.FieldType.boolean)).before args0 about1 = true := code_word (m := ⟨2, 8⟩) (meth := k2m8) (c := k2c8) (by decide +kernel) rfl rfl rfl (by decide +kernel)
set_option maxRecDepth 65536 in
theorem w_c17 : (Jvm.Cond.code ({ cls := "CausalStable", name := "state", desc := "(III)I" } : Jvm.MethodName) prog_1_method_24_code (5 : Nat) (Option.some Jvm.ClassFile.FieldType.int)).before args0 about1 = true := code_word (m := ⟨2, 23⟩) (meth := k2m23) (c := k2c23) (by decide +kernel) rfl rfl rfl (by decide +kernel)
set_option maxRecDepth 65536 in
theorem w_c18 : (Jvm.Cond.code ({ cls := "CausalStable", name := "isCrashed", desc := "(I)Z" } : Jvm.MethodName) prog_1_method_28_code (2 : Nat) (Option.some Jvm.ClassFile.FieldType.boolean)).before args0 about1 = true := code_word (m := ⟨2, 27⟩) (meth := k2m27) (c := k2c27) (by decide +kernel) rfl rfl rfl (by decide +kernel)
set_option maxRecDepth 65536 in
theorem w_c19 : (Jvm.Cond.code ({ cls := "CausalStableL5", name := "same", desc := "(LCausalStable;LCausalStable;)Z" } : Jvm.MethodName) method_4_code (5 : Nat) (Option.some Jvm.ClassFile.FieldType.boolean)).before args0 about1 = true := code_word (m := ⟨1, 3⟩) (meth := k1m3) (c := k1c3) (by decide +kernel) rfl rfl rfl (by decide +kernel)
set_option maxRecDepth 65536 in
theorem w_c20 : (Jvm.Cond.code ({ cls := "CausalStable", name := "sent", desc := "(I)I" } : Jvm.MethodName) prog_1_method_21_code (2 : Nat) (Option.some Jvm.ClassFile.FieldType.int)).before args0 about1 = true := code_word (m := ⟨2, 20⟩) (meth := k2m20) (c := k2c20) (by decide +kernel) rfl rfl rfl (by decide +kernel)
set_option maxRecDepth 65536 in
theorem w_c21 : (Jvm.Cond.code ({ cls := "CausalStable", name := "deliveredAt", desc := "(II)I" } : Jvm.MethodName) prog_1_method_26_code (3 : Nat) (Option.some Jvm.ClassFile.FieldType.int)).before args0 about1 = true := code_word (m := ⟨2, 25⟩) (meth := k2m25) (c := k2c25) (by decide +kernel) rfl rfl rfl (by decide +kernel)
set_option maxRecDepth 65536 in
theorem w_c22 : (Jvm.Cond.code ({ cls := "CausalStable", name := "delivered", desc := "(II)I" } : Jvm.MethodName) prog_1_method_25_code (3 : Nat) (Option.some Jvm.ClassFile.FieldType.int)).before args0 about1 = true := code_word (m := ⟨2, 24⟩) (meth := k2m24) (c := k2c24) (by decide +kernel) rfl rfl rfl (by decide +kernel)
set_option maxRecDepth 65536 in
theorem w_c23 : (Jvm.Cond.code ({ cls := "CausalStable", name := "known", desc := "(III)I" } : Jvm.MethodName) prog_1_method_27_code (5 : Nat) (Option.some Jvm.ClassFile.FieldType.int)).before args0 about1 = true := code_word (m := ⟨2, 26⟩) (meth := k2m26) (c := k2c26) (by decide +kernel) rfl rfl rfl (by decide +kernel)
set_option maxRecDepth 65536 in
theorem w_c24 : (Jvm.Cond.code ({ cls := "CausalStable", name := "copies", desc := "(III)I" } : Jvm.MethodName) prog_1_method_23_code (5 : Nat) (Option.some Jvm.ClassFile.FieldType.int)).before args0 about1 = true := code_word (m := ⟨2, 22⟩) (meth := k2m22) (c := k2c22) (by decide +kernel) rfl rfl rfl (by decide +kernel)
set_option maxRecDepth 65536 in
theorem w_c25 : (Jvm.Cond.code ({ cls := "CausalStable", name := "stamp", desc := "(III)I" } : Jvm.MethodName) prog_1_method_22_code (5 : Nat) (Option.some Jvm.ClassFile.FieldType.int)).before args0 about1 = true := code_word (m := ⟨2, 21⟩) (meth := k2m21) (c := k2c21) (by decide +kernel) rfl rfl rfl (by decide +kernel)
set_option maxRecDepth 65536 in
theorem w_c26 : (Jvm.Cond.code ({ cls := "CausalStable", name := "prune", desc := "(I)I" } : Jvm.MethodName) prog_1_method_19_code (7 : Nat) (Option.some Jvm.ClassFile.FieldType.int)).before args0 about1 = true := code_word (m := ⟨2, 18⟩) (meth := k2m18) (c := k2c18) (by decide +kernel) rfl rfl rfl (by decide +kernel)
set_option maxRecDepth 65536 in
theorem w_c27 : (Jvm.Cond.code ({ cls := "CausalStable", name := "retransmit", desc := "(IIII)I" } : Jvm.MethodName) prog_1_method_17_code (7 : Nat) (Option.some Jvm.ClassFile.FieldType.int)).before args0 about1 = true := code_word (m := ⟨2, 16⟩) (meth := k2m16) (c := k2c16) (by decide +kernel) rfl rfl rfl (by decide +kernel)
set_option maxRecDepth 65536 in
theorem w_c28 : (Jvm.Cond.code ({ cls := "CausalStable", name := "crash", desc := "(I)I" } : Jvm.MethodName) prog_1_method_20_code (2 : Nat) (Option.some Jvm.ClassFile.FieldType.int)).before args0 about1 = true := code_word (m := ⟨2, 19⟩) (meth := k2m19) (c := k2c19) (by decide +kernel) rfl rfl rfl (by decide +kernel)
set_option maxRecDepth 65536 in
theorem w_c29 : (Jvm.Cond.code ({ cls := "CausalStable", name := "gossip", desc := "(II)I" } : Jvm.MethodName) prog_1_method_18_code (7 : Nat) (Option.some Jvm.ClassFile.FieldType.int)).before args0 about1 = true := code_word (m := ⟨2, 17⟩) (meth := k2m17) (c := k2c17) (by decide +kernel) rfl rfl rfl (by decide +kernel)
set_option maxRecDepth 65536 in
theorem w_c30 : (Jvm.Cond.code ({ cls := "CausalStable", name := "othersAllCrashed", desc := "(I)Z" } : Jvm.MethodName) prog_1_method_12_code (3 : Nat) (Option.some Jvm.ClassFile.FieldType.boolean)).before args0 about1 = true := code_word (m := ⟨2, 11⟩) (meth := k2m11) (c := k2c11) (by decide +kernel) rfl rfl rfl (by decide +kernel)
set_option maxRecDepth 65536 in
theorem w_c31 : (Jvm.Cond.code ({ cls := "CausalStable", name := "isStable", desc := "(III)Z" } : Jvm.MethodName) prog_1_method_11_code (6 : Nat) (Option.some Jvm.ClassFile.FieldType.boolean)).before args0 about1 = true := code_word (m := ⟨2, 10⟩) (meth := k2m10) (c := k2c10) (by decide +kernel) rfl rfl rfl (by decide +kernel)
def codes1 : List Jvm.Cond := [Jvm.Cond.code x code maxLocals ret, Jvm.Cond.code ({ cls := "CausalStable", name := "<init>", desc := "(II)V" } : Jvm.MethodName) prog_1_method_1_code (5 : Nat) (Option.none : Option Jvm.ClassFile.FieldType), Jvm.Cond.code ({ cls := "java/lang/Object", name := "<init>", desc := "()V" } : Jvm.MethodName) object_method_1_code (1 : Nat) (Option.none : Option Jvm.ClassFile.FieldType), Jvm.Cond.code ({ cls := "CausalStableL5", name := "step", desc := "(LCausalStable;IIIII)V" } : Jvm.MethodName) method_3_code (6 : Nat) (Option.none : Option Jvm.ClassFile.FieldType), Jvm.Cond.code ({ cls := "CausalStable", name := "drop", desc := "(III)I" } : Jvm.MethodName) prog_1_method_16_code (5 : Nat) (Option.some Jvm.ClassFile.FieldType.int), Jvm.Cond.code ({ cls := "CausalStable", name := "exists", desc := "(II)Z" } : Jvm.MethodName) prog_1_method_3_code (3 : Nat) (Option.some Jvm.ClassFile.FieldType.boolean), Jvm.Cond.code ({ cls := "CausalStable", name := "broadcast", desc := "(I)I" } : Jvm.MethodName) prog_1_method_13_code (5 : Nat) (Option.some Jvm.ClassFile.FieldType.int), Jvm.Cond.code ({ cls := "CausalStable", name := "validProc", desc := "(I)Z" } : Jvm.MethodName) prog_1_method_2_code (2 : Nat) (Option.some Jvm.ClassFile.FieldType.boolean), Jvm.Cond.code ({ cls := "CausalStable", name := "msgIndex", desc := "(II)I" } : Jvm.MethodName) prog_1_method_4_code (3 : Nat) (Option.some Jvm.ClassFile.FieldType.int), Jvm.Cond.code ({ cls := "CausalStable", name := "deliverAt", desc := "(III)V" } : Jvm.MethodName) prog_1_method_8_code (7 : Nat) (Option.none : Option Jvm.ClassFile.FieldType), Jvm.Cond.code ({ cls := "CausalStable", name := "stateIndex", desc := "(III)I" } : Jvm.MethodName) prog_1_method_5_code (4 : Nat) (Option.some Jvm.ClassFile.FieldType.int), Jvm.Cond.code ({ cls := "CausalStable", name := "knownIndex", desc := "(III)I" } : Jvm.MethodName) prog_1_method_7_code (4 : Nat) (Option.some Jvm.ClassFile.FieldType.int), Jvm.Cond.code ({ cls := "CausalStable", name := "duplicate", desc := "(III)I" } : Jvm.MethodName) prog_1_method_15_code (5 : Nat) (Option.some Jvm.ClassFile.FieldType.int), Jvm.Cond.code ({ cls := "CausalStable", name := "receive", desc := "(III)I" } : Jvm.MethodName) prog_1_method_14_code (6 : Nat) (Option.some Jvm.ClassFile.FieldType.int), Jvm.Cond.code ({ cls := "CausalStable", name := "copyIndex", desc := "(III)I" } : Jvm.MethodName) prog_1_method_6_code (4 : Nat) (Option.some Jvm.ClassFile.FieldType.int), Jvm.Cond.code ({ cls := "CausalStable", name := "cascade", desc := "(I)I" } : Jvm.MethodName) prog_1_method_10_code (8 : Nat) (Option.some Jvm.ClassFile.FieldType.int), Jvm.Cond.code ({ cls := "CausalStable", name := "isDeliverable", desc := "(III)Z" } : Jvm.MethodName) prog_1_method_9_code (7 : Nat) (Option.some Jvm.ClassFile.FieldType.boolean), Jvm.Cond.code ({ cls := "CausalStable", name := "state", desc := "(III)I" } : Jvm.MethodName) prog_1_method_24_code (5 : Nat) (Option.some Jvm.ClassFile.FieldType.int), Jvm.Cond.code ({ cls := "CausalStable", name := "isCrashed", desc := "(I)Z" } : Jvm.MethodName) prog_1_method_28_code (2 : Nat) (Option.some Jvm.ClassFile.FieldType.boolean), Jvm.Cond.code ({ cls := "CausalStableL5", name := "same", desc := "(LCausalStable;LCausalStable;)Z" } : Jvm.MethodName) method_4_code (5 : Nat) (Option.some Jvm.ClassFile.FieldType.boolean), Jvm.Cond.code ({ cls := "CausalStable", name := "sent", desc := "(I)I" } : Jvm.MethodName) prog_1_method_21_code (2 : Nat) (Option.some Jvm.ClassFile.FieldType.int), Jvm.Cond.code ({ cls := "CausalStable", name := "deliveredAt", desc := "(II)I" } : Jvm.MethodName) prog_1_method_26_code (3 : Nat) (Option.some Jvm.ClassFile.FieldType.int), Jvm.Cond.code ({ cls := "CausalStable", name := "delivered", desc := "(II)I" } : Jvm.MethodName) prog_1_method_25_code (3 : Nat) (Option.some Jvm.ClassFile.FieldType.int), Jvm.Cond.code ({ cls := "CausalStable", name := "known", desc := "(III)I" } : Jvm.MethodName) prog_1_method_27_code (5 : Nat) (Option.some Jvm.ClassFile.FieldType.int), Jvm.Cond.code ({ cls := "CausalStable", name := "copies", desc := "(III)I" } : Jvm.MethodName) prog_1_method_23_code (5 : Nat) (Option.some Jvm.ClassFile.FieldType.int), Jvm.Cond.code ({ cls := "CausalStable", name := "stamp", desc := "(III)I" } : Jvm.MethodName) prog_1_method_22_code (5 : Nat) (Option.some Jvm.ClassFile.FieldType.int), Jvm.Cond.code ({ cls := "CausalStable", name := "prune", desc := "(I)I" } : Jvm.MethodName) prog_1_method_19_code (7 : Nat) (Option.some Jvm.ClassFile.FieldType.int), Jvm.Cond.code ({ cls := "CausalStable", name := "retransmit", desc := "(IIII)I" } : Jvm.MethodName) prog_1_method_17_code (7 : Nat) (Option.some Jvm.ClassFile.FieldType.int), Jvm.Cond.code ({ cls := "CausalStable", name := "crash", desc := "(I)I" } : Jvm.MethodName) prog_1_method_20_code (2 : Nat) (Option.some Jvm.ClassFile.FieldType.int), Jvm.Cond.code ({ cls := "CausalStable", name := "gossip", desc := "(II)I" } : Jvm.MethodName) prog_1_method_18_code (7 : Nat) (Option.some Jvm.ClassFile.FieldType.int), Jvm.Cond.code ({ cls := "CausalStable", name := "othersAllCrashed", desc := "(I)Z" } : Jvm.MethodName) prog_1_method_12_code (3 : Nat) (Option.some Jvm.ClassFile.FieldType.boolean), Jvm.Cond.code ({ cls := "CausalStable", name := "isStable", desc := "(III)Z" } : Jvm.MethodName) prog_1_method_11_code (6 : Nat) (Option.some Jvm.ClassFile.FieldType.boolean)]
set_option maxRecDepth 65536 in
theorem codes_eq : words1.filter isCode = codes1 := rfl
theorem w_codes : ∀ c ∈ words1.filter isCode, c.before args0 about1 = true := by
  rw [codes_eq]
  intro c hc
  simp only [codes1, List.mem_cons, List.not_mem_nil, or_false] at hc
  rcases hc with rfl | rfl | rfl | rfl | rfl | rfl | rfl | rfl | rfl | rfl | rfl | rfl | rfl | rfl | rfl | rfl | rfl | rfl | rfl | rfl | rfl | rfl | rfl | rfl | rfl | rfl | rfl | rfl | rfl | rfl | rfl | rfl
  · exact w_c0
  · exact w_c1
  · exact w_c2
  · exact w_c3
  · exact w_c4
  · exact w_c5
  · exact w_c6
  · exact w_c7
  · exact w_c8
  · exact w_c9
  · exact w_c10
  · exact w_c11
  · exact w_c12
  · exact w_c13
  · exact w_c14
  · exact w_c15
  · exact w_c16
  · exact w_c17
  · exact w_c18
  · exact w_c19
  · exact w_c20
  · exact w_c21
  · exact w_c22
  · exact w_c23
  · exact w_c24
  · exact w_c25
  · exact w_c26
  · exact w_c27
  · exact w_c28
  · exact w_c29
  · exact w_c30
  · exact w_c31
set_option maxRecDepth 65536 in
theorem w_t1 : (words1.take 24).all (fun c => isCode c || c.before args0 about1) = true := by decide +kernel
set_option maxRecDepth 65536 in
theorem w_t2 : ((words1.drop 24).take 24).all (fun c => isCode c || c.before args0 about1) = true := by decide +kernel
set_option maxRecDepth 65536 in
theorem w_t3 : (((words1.drop 24).drop 24).take 24).all (fun c => isCode c || c.before args0 about1) = true := by decide +kernel
set_option maxRecDepth 65536 in
theorem w_t4 : ((((words1.drop 24).drop 24).drop 24).take 24).all (fun c => isCode c || c.before args0 about1) = true := by decide +kernel
set_option maxRecDepth 65536 in
theorem w_t5 : (((((words1.drop 24).drop 24).drop 24).drop 24).take 24).all (fun c => isCode c || c.before args0 about1) = true := by decide +kernel
set_option maxRecDepth 65536 in
theorem w_t6 : ((((((words1.drop 24).drop 24).drop 24).drop 24).drop 24).take 24).all (fun c => isCode c || c.before args0 about1) = true := by decide +kernel
set_option maxRecDepth 65536 in
theorem w_t7 : ((((((words1.drop 24).drop 24).drop 24).drop 24).drop 24).drop 24).all (fun c => isCode c || c.before args0 about1) = true := by decide +kernel
theorem w_tables : (allAtoms (Jvm.Cond.code x code maxLocals ret :: tables_1)).before args0 about1 = true := by
  rw [allAtoms_all]
  show words1.all (fun c => c.before args0 about1) = true
  refine all_split ?_ w_codes
  rw [← List.take_append_drop 24 words1, List.all_append, w_t1, ← List.take_append_drop 24 (words1.drop 24), List.all_append, w_t2, ← List.take_append_drop 24 ((words1.drop 24).drop 24), List.all_append, w_t3, ← List.take_append_drop 24 (((words1.drop 24).drop 24).drop 24), List.all_append, w_t4, ← List.take_append_drop 24 ((((words1.drop 24).drop 24).drop 24).drop 24), List.all_append, w_t5, ← List.take_append_drop 24 (((((words1.drop 24).drop 24).drop 24).drop 24).drop 24), List.all_append, w_t6, w_t7]
  rfl
set_option maxRecDepth 65536 in
theorem w_rest : rest_1_c.before args0 about1 = true := by decide +kernel
set_option maxRecDepth 65536 in
theorem w_case : (Jvm.Cond.and given_1 narrow_1).before args0 about1 = true := by decide +kernel
theorem w_applies : (headSpec (Jvm.Cond.code x code maxLocals ret :: tables_1) room_1).applies x e0.platform about1 = true :=
  (Spec.applies_iff w_frames).mpr ⟨w_running, w_runnable, w_alone, w_named, w_hears, w_ripe, w_room, w_tables⟩
theorem atStart : AtStart classFile x code maxLocals ret World_1 tables_1 room_1 Calls_1 rest_1 Pre_1 launch0 p0 e0 about1 theMethod args0 below0 :=
  ⟨lists_1, trivial, launch0.admits_env _ _ _, launch0.least_env, fairChoices_fair.cas, fairChoices_fair.clock, w_frames, w_args, w_heap, w_applies, trivial, w_rest, w_case⟩
end start1
theorem witness_1 : WitnessClaimed_1 := ⟨start1.p0, start1.e0, start1.about1, start1.theMethod, start1.args0, start1.below0, start1.atStart⟩
end Jvm.Pilot.@@N@@
