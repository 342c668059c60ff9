import JvmDerived
import JvmDerived.Pilot.@@N@@Statement
import JvmDerived.Pilot.@@N@@Code
set_option linter.unusedVariables false
set_option linter.unusedSimpArgs false
namespace Jvm.RoadKit
open Sem ClassFile Op Lib Jvm.Stand Jvm.Free Jvm.LawKit
section New
variable {p : Program} {l : Launch} {e : Env} {R : Room} {s : State} {m : MethodId} {args : Array Value} {below : List Frame} {meth : Method} {c : Code} {T : State} {locs : List Loc} {cells slots : Nat}
theorem retI (X : Stand p l e R s m args below meth c T locs cells slots) (hx : p.tables.exec = Jvm.exec) {pc : Nat} {Ls : Array Slot} {z : Int32} {rest : List Value} (hret : meth.sig.returnType = some .int) (hd : decode c.code pc = .ok (.ireturn, 1)) {fs : List Frame}
    (hl : ∀ (f : JFrame) (acts : List Action), f.method = m → f.locked = none → f.entered = [] → (doReturn e (T.setTop f) acts (some (.int z))).1 = T.setFrames fs) : Steps p.tables e below (T.setTop (mkF m pc Ls (.int z :: rest))) (T.setFrames fs) := by
  have hm' : T.vm.method? m = some meth := X.method'
  have hn : narrow .int (.int z) = .int z := rfl
  show Steps p.tables e below (T.setTop { method := m, pc := pc, locals := Ls, stack := _ :: rest, locked := none }) _
  jvm_step X.here [X.here.top, hx, hd, hm', hret, hn]
  first | (intro acts; rw [hl _ acts rfl rfl rfl]) | rw [hl _ _ rfl rfl rfl]
  exact Steps.refl _
end New
end Jvm.RoadKit
namespace Jvm.Pilot.@@N@@
open Jvm Jvm.ClassFile Sem Op Lib Jvm.Free Jvm.Stand Jvm.LawKit Jvm.RoadKit Bundle Jvm.Pilot.@@N@@.Jvm.D
/- records: scalars, int-like arrays, long arrays -/
abbrev Rec : Type := (Nat → Int32) × (Nat → Int32 → Int32) × (Nat → Int32 → Int64)
def zrec : Rec := (fun _ => 0, fun _ _ => 0, fun _ _ => 0)
def gI (ob : Rec) (k : Nat) : Int32 := ob.1 k
def gA (ob : Rec) (k : Nat) (i : Int32) : Int32 := ob.2.1 k i
def gJ (ob : Rec) (k : Nat) (i : Int32) : Int64 := ob.2.2 k i
def sI (ob : Rec) (k : Nat) (v : Int32) : Rec := (fun j => if j = k then v else ob.1 j, ob.2)
def sA (ob : Rec) (k : Nat) (i v : Int32) : Rec := (ob.1, fun j x => if j = k ∧ x = i then v else ob.2.1 j x, ob.2.2)
def sJ (ob : Rec) (k : Nat) (i : Int32) (v : Int64) : Rec := (ob.1, ob.2.1, fun j x => if j = k ∧ x = i then v else ob.2.2 j x)
def chk {γ : Type} (n i : Int32) (A : Option γ) : Option γ := if i < 0 then none else if i < n then A else none
def dvz {γ : Type} (y : Int32) (A : Option γ) : Option γ := if y = 0 then none else A
def bind2 {α β γ : Type} (o : Option (α × β)) (f : α → β → Option γ) : Option γ := o.bind fun q => f q.1 q.2
def bind3 {α β γ δ : Type} (o : Option (α × β × δ)) (f : α → β → δ → Option γ) : Option γ := o.bind fun q => f q.1 q.2.1 q.2.2
theorem ite_el {c : Prop} [Decidable c] {γ : Type} {A B : Option γ} {r : γ} {Q : Prop} (h : (if c then A else B) = some r) (t : c → A = some r → Q) (e : ¬ c → B = some r → Q) : Q := by
  by_cases hc : c
  · rw [if_pos hc] at h; exact t hc h
  · rw [if_neg hc] at h; exact e hc h
theorem bind_el {α γ : Type} {o : Option α} {f : α → Option γ} {r : γ} {Q : Prop} (h : o.bind f = some r) (k : ∀ x, o = some x → f x = some r → Q) : Q := by
  cases o with
  | none => cases h
  | some x => exact k x rfl h
theorem bind2_el {α β γ : Type} {o : Option (α × β)} {f : α → β → Option γ} {r : γ} {Q : Prop} (h : bind2 o f = some r) (k : ∀ x y, o = some (x, y) → f x y = some r → Q) : Q := by
  rcases o with _ | ⟨x, y⟩
  · cases h
  · exact k x y rfl h
theorem bind3_el {α β γ δ : Type} {o : Option (α × β × δ)} {f : α → β → δ → Option γ} {r : γ} {Q : Prop} (h : bind3 o f = some r) (k : ∀ x y z, o = some (x, y, z) → f x y z = some r → Q) : Q := by
  rcases o with _ | ⟨x, y, z⟩
  · cases h
  · exact k x y z rfl h
theorem chk_el {γ : Type} {n i : Int32} {A : Option γ} {r : γ} {Q : Prop} (h : chk n i A = some r) (k : (¬ i < 0 ∧ i < n) → A = some r → Q) : Q := by
  unfold chk at h
  by_cases h0 : i < 0
  · rw [if_pos h0] at h; cases h
  · rw [if_neg h0] at h
    by_cases h1 : i < n
    · rw [if_pos h1] at h; exact k ⟨h0, h1⟩ h
    · rw [if_neg h1] at h; cases h
theorem dvz_el {γ : Type} {y : Int32} {A : Option γ} {r : γ} {Q : Prop} (h : dvz y A = some r) (k : y ≠ 0 → A = some r → Q) : Q := by
  unfold dvz at h
  by_cases h0 : y = 0
  · rw [if_pos h0] at h; cases h
  · rw [if_neg h0] at h; exact k h0 h
def All {α : Type} (p : α → Prop) : List α → Prop
  | [] => True
  | x :: l => p x ∧ All p l
theorem All.mem {α : Type} {p : α → Prop} : ∀ {l : List α}, All p l → ∀ {x : α}, x ∈ l → p x
  | [], _, _, h => nomatch h
  | _ :: _, H, _, h => (List.mem_cons.mp h).elim (fun e => e ▸ H.1) (fun e => All.mem H.2 e)
def el (ty : FieldType) (ob : Rec) (k : Nat) (j : Int32) : Value := match ty with
  | .long => .long (ob.2.2 k j)
  | _ => .int (ob.2.1 k j)
def aD (ty : FieldType) : String := match ty with
  | .int => "[I"
  | .boolean => "[Z"
  | _ => "[J"
abbrev Cls : Type := String × List (String × String) × List (String × FieldType × Int32)
abbrev mem1 (k : Nat) {d : Jvm.Cond} (h : tables_1[k]? = some d) : d ∈ tables_1 := List.mem_of_getElem? h
abbrev sOk (C : String) (nd : String × String) : Prop := (Jvm.Cond.lays C C nd.1 nd.2 ∈ tables_1 ∨ Jvm.Cond.laysFinal C C nd.1 nd.2 ∈ tables_1) ∧ (nd.2 = "I" ∨ nd.2 = "Z")
abbrev aOk (C : String) (t : String × FieldType × Int32) : Prop := (Jvm.Cond.lays C C t.1 (aD t.2.1) ∈ tables_1 ∨ Jvm.Cond.laysFinal C C t.1 (aD t.2.1) ∈ tables_1) ∧ (t.2.1 = .int ∨ t.2.1 = .boolean ∨ t.2.1 = .long) ∧ ¬ t.2.2 < 0
def K : Cls := ("CausalStable", [("n", "I"), ("cap", "I")], [("sentCount", .int, 8), ("crashedFlag", .boolean, 8), ("del", .int, 64), ("msgState", .int, 512), ("stampArr", .int, 512), ("copyArr", .int, 512), ("known", .int, 512), ("list", .int, 512), ("listLen", .int, 8)])
theorem kS : All (sOk K.1) K.2.1 := ⟨⟨Or.inl (mem1 30 rfl), Or.inl rfl⟩, ⟨Or.inl (mem1 32 rfl), Or.inl rfl⟩, trivial⟩
theorem kA : All (aOk K.1) K.2.2 := ⟨⟨Or.inl (mem1 11 rfl), Or.inl rfl, by decide⟩, ⟨Or.inl (mem1 14 rfl), Or.inr (Or.inl rfl), by decide⟩, ⟨Or.inl (mem1 16 rfl), Or.inl rfl, by decide⟩, ⟨Or.inl (mem1 18 rfl), Or.inl rfl, by decide⟩, ⟨Or.inl (mem1 20 rfl), Or.inl rfl, by decide⟩, ⟨Or.inl (mem1 22 rfl), Or.inl rfl, by decide⟩, ⟨Or.inl (mem1 24 rfl), Or.inl rfl, by decide⟩, ⟨Or.inl (mem1 26 rfl), Or.inl rfl, by decide⟩, ⟨Or.inl (mem1 28 rfl), Or.inl rfl, by decide⟩, trivial⟩
abbrev kN : Nat := 11
theorem kI : Jvm.Cond.instantiable K.1 kN ∈ tables_1 := mem1 1 rfl
theorem kZ : Jvm.Cond.initialized K.1 ∈ tables_1 := mem1 2 rfl
theorem kNm : (K.2.1.map (·.1) ++ K.2.2.map (·.1)).Nodup := by decide +kernel
theorem nm_ss {k k' : Nat} {nd nd' : String × String} (h : K.2.1[k]? = some nd) (h' : K.2.1[k']? = some nd') (ne : k ≠ k') : nd.1 ≠ nd'.1 := fun e => by
  have l := (List.getElem?_eq_some_iff.mp h).1
  have l' := (List.getElem?_eq_some_iff.mp h').1
  refine ne ((List.getElem?_inj (l := K.2.1.map (·.1) ++ K.2.2.map (·.1)) (i := k) (j := k') (by simp; omega) kNm).mp ?_)
  rw [List.getElem?_append_left (by simpa using l), List.getElem?_append_left (by simpa using l'), List.getElem?_map, List.getElem?_map, h, h']
  simp [e]
theorem nm_aa {k k' : Nat} {t t' : String × FieldType × Int32} (h : K.2.2[k]? = some t) (h' : K.2.2[k']? = some t') (ne : k ≠ k') : t.1 ≠ t'.1 := fun e => by
  have l := (List.getElem?_eq_some_iff.mp h).1
  have l' := (List.getElem?_eq_some_iff.mp h').1
  have q := (List.getElem?_inj (l := K.2.1.map (·.1) ++ K.2.2.map (·.1)) (i := K.2.1.length + k) (j := K.2.1.length + k') (by simp; omega) kNm).mp (by
    rw [List.getElem?_append_right (by simp), List.getElem?_append_right (by simp)]
    simp [h, h', e])
  omega
theorem nm_sa {k k' : Nat} {nd : String × String} {t : String × FieldType × Int32} (h : K.2.1[k]? = some nd) (h' : K.2.2[k']? = some t) : nd.1 ≠ t.1 := fun e => by
  have l := (List.getElem?_eq_some_iff.mp h).1
  have l' := (List.getElem?_eq_some_iff.mp h').1
  have q := (List.getElem?_inj (l := K.2.1.map (·.1) ++ K.2.2.map (·.1)) (i := k) (j := K.2.1.length + k') (by simp; omega) kNm).mp (by
    rw [List.getElem?_append_left (by simpa using l), List.getElem?_append_right (by simp)]
    simp [h, h', e])
  omega
abbrev Ctx : Type := Launch × State × Nat × Array Value
def Ok (C : Ctx) : Prop := ∀ d ∈ tables_1, d.before C.2.2.2 C.2.1 = true
def ArrAt (Z : State) (h : Heap) (b : Nat) (ty : FieldType) (len : Int32) (v : Int32 → Value) : Prop := ∃ cl : Cell, Arr Z h b cl ty ∧ cl.slots.size = len.toNatClampNeg ∧ ∀ j : Int32, ¬ j < 0 → j < len → cl.slots[j.toNatClampNeg]? = some (v j)
def ObjAt (Z : State) (h : Heap) (a : Nat) (q : Nat) (ob : Rec) : Prop :=
  Exa Z h a K.1 ∧ (∀ k nd, K.2.1[k]? = some nd → Fld Z h a K.1 nd.1 nd.2 (.int (ob.1 k))) ∧
  (∀ k t, K.2.2[k]? = some t → k < q → Fld Z h a K.1 t.1 (aD t.2.1) (.ref (a + 1 + k)) ∧ ArrAt Z h (a + 1 + k) t.2.1 t.2.2 (el t.2.1 ob k)) ∧
  (∀ k t, K.2.2[k]? = some t → q ≤ k → Fld Z h a K.1 t.1 (aD t.2.1) .null)
abbrev AH : Type := Nat × List (Nat × Nat × Rec)
def Rep (Z : State) (n0 : Nat) (h : Heap) (G : AH) : Prop :=
  h.size = G.1 ∧ Old Z n0 h ∧ (∀ x ∈ G.2, n0 ≤ x.1 ∧ x.1 + x.2.1 < G.1 ∧ ObjAt Z h x.1 x.2.1 x.2.2) ∧ G.2.Pairwise (fun x y => x.1 + x.2.1 < y.1 ∨ y.1 + y.2.1 < x.1)
section Facts
variable {Z : State} {h h' : Heap} {a b : Nat} {q k n0 top : Nat} {ob ob' : Rec} {nd : String × String} {t : String × FieldType × Int32} {a0 : Array Value} {sl : Nat} {v : Value} {H : List (Nat × Nat × Rec)} {G : AH}
theorem fld_fr {C n d : String} (e : h'[a]? = h[a]?) (F : Fld Z h a C n d v) : Fld Z h' a C n d v := by
  obtain ⟨cell, cf, k, i, f, h1, r⟩ := F; exact ⟨cell, cf, k, i, f, e.trans h1, r⟩
theorem exa_fr {C : String} (e : h'[a]? = h[a]?) (F : Exa Z h a C) : Exa Z h' a C := by
  obtain ⟨cell, k, h1, r⟩ := F; exact ⟨cell, k, e.trans h1, r⟩
theorem arrAt_fr {ty : FieldType} {len : Int32} {w : Int32 → Value} (e : h'[a]? = h[a]?) (F : ArrAt Z h a ty len w) : ArrAt Z h' a ty len w := by
  obtain ⟨cl, A, r⟩ := F; exact ⟨cl, ⟨e.trans A.1, A.2⟩, r⟩
theorem ObjAt.frame (e : ∀ b, a ≤ b → b ≤ a + q → h'[b]? = h[b]?) (F : ObjAt Z h a q ob) : ObjAt Z h' a q ob := by
  have e0 := e a (Nat.le_refl _) (Nat.le_add_right _ _)
  refine ⟨exa_fr e0 F.1, fun k nd hk => fld_fr e0 (F.2.1 k nd hk), fun k t hk hq => ⟨fld_fr e0 (F.2.2.1 k t hk hq).1, arrAt_fr (e _ (by omega) (by omega)) (F.2.2.1 k t hk hq).2⟩, fun k t hk hq => fld_fr e0 (F.2.2.2 k t hk hq)⟩
theorem ObjAt.ext (E : Ext h h') (F : ObjAt Z h a q ob) : ObjAt Z h' a q ob := by
  refine ⟨F.1.ext E, fun k nd hk => (F.2.1 k nd hk).ext E, fun k t hk hq => ⟨(F.2.2.1 k t hk hq).1.ext E, ?_⟩, fun k t hk hq => (F.2.2.2 k t hk hq).ext E⟩
  obtain ⟨cl, A, r⟩ := (F.2.2.1 k t hk hq).2; exact ⟨cl, A.ext E, r⟩
theorem wr_ne (W : Wr h h' a sl v) (ne : b ≠ a) : h'[b]? = h[b]? := by
  obtain ⟨cell, -, -, -, rfl⟩ := W; exact Array.getElem?_setIfInBounds_ne (Ne.symm ne)
theorem laidS (hw : ∀ d ∈ tables_1, d.before a0 Z = true) (hk : K.2.1[k]? = some nd) : Laid Z a0 K.1 K.1 nd.1 nd.2 := ((All.mem kS (List.mem_of_getElem? hk)).1).imp (hw _) (hw _)
theorem laidA (hw : ∀ d ∈ tables_1, d.before a0 Z = true) (hk : K.2.2[k]? = some t) : Laid Z a0 K.1 K.1 t.1 (aD t.2.1) := ((All.mem kA (List.mem_of_getElem? hk)).1).imp (hw _) (hw _)
theorem pfS (hk : K.2.1[k]? = some nd) : ∃ ty, parseFieldDescriptor nd.2 = some ty := by
  rcases (All.mem kS (List.mem_of_getElem? hk)).2 with e | e <;> rw [e]
  · exact ⟨.int, by decide⟩
  · exact ⟨.boolean, by decide⟩
theorem pfA (hk : K.2.2[k]? = some t) : parseFieldDescriptor (aD t.2.1) = some (.array t.2.1) := by
  rcases (All.mem kA (List.mem_of_getElem? hk)).2.1 with e | e | e <;> rw [e] <;> decide
theorem ObjAt.putI {x : Int32} (hw : ∀ d ∈ tables_1, d.before a0 Z = true) (F : ObjAt Z h a q ob) (hk : K.2.1[k]? = some nd) (W : Wr h h' a (Jvm.RoadKit.slotOf Z K.1 nd.1 nd.2) (.int x)) : ObjAt Z h' a q (sI ob k x) := by
  obtain ⟨ty, hty⟩ := pfS hk
  refine ⟨F.1.wr W, fun k' nd' hk' => ?_, fun k' t hk' hq => ⟨(F.2.2.1 k' t hk' hq).1.other W (Or.inr (Jvm.RoadKit.slot_ne (laidA hw hk') (laidS hw hk) (Ne.symm (nm_sa hk hk')) (pfA hk') hty)), ?_⟩, fun k' t hk' hq => (F.2.2.2 k' t hk' hq).other W (Or.inr (Jvm.RoadKit.slot_ne (laidA hw hk') (laidS hw hk) (Ne.symm (nm_sa hk hk')) (pfA hk') hty))⟩
  · by_cases e : k' = k
    · subst e; cases hk.symm.trans hk'
      have := (F.2.1 k' nd hk).same W
      simpa [sI] using this
    · obtain ⟨ty', hty'⟩ := pfS hk'
      have := (F.2.1 k' nd' hk').other W (Or.inr (Jvm.RoadKit.slot_ne (laidS hw hk') (laidS hw hk) (nm_ss hk' hk e) hty' hty))
      simpa [sI, e] using this
  · have := arrAt_fr (wr_ne W (by omega)) (F.2.2.1 k' t hk' hq).2
    have e : el t.2.1 (sI ob k x) k' = el t.2.1 ob k' := by funext j; unfold el; split <;> rfl
    rw [e]; exact this
theorem ObjAt.putA (F : ObjAt Z h a q ob) (hk : K.2.2[k]? = some t) (hq : k < q) {x : Value} {j : Int32} (hj : ¬ j < 0 ∧ j < t.2.2) (W : Wr h h' (a + 1 + k) j.toNatClampNeg x)
    (e1 : el t.2.1 ob' k = fun i => if i = j then x else el t.2.1 ob k i) (e2 : ∀ k' t', k' ≠ k → el t' ob' k' = el t' ob k') (e3 : ob'.1 = ob.1) : ObjAt Z h' a q ob' := by
  have u : h'[a]? = h[a]? := wr_ne W (by omega)
  refine ⟨exa_fr u F.1, fun k' nd hk' => by rw [e3]; exact fld_fr u (F.2.1 k' nd hk'), fun k' t' hk' hq' => ⟨fld_fr u (F.2.2.1 k' t' hk' hq').1, ?_⟩, fun k' t' hk' hq' => fld_fr u (F.2.2.2 k' t' hk' hq')⟩
  by_cases e : k' = k
  · subst e; cases hk.symm.trans hk'
    obtain ⟨cl, A, S, V⟩ := (F.2.2.1 k' t hk hq).2
    have inb : ¬ (j < 0 ∨ cl.slots.size ≤ j.toNatClampNeg) := inb_of S hj
    refine ⟨_, A.same W, by rw [sz_set]; exact S, fun i h0 h1 => ?_⟩
    rw [e1]
    by_cases ei : i = j
    · simp only [ei, if_true]; exact get_hit inb rfl
    · simp only [ei, if_false]; rw [get_miss hj.1 h0 ei]; exact V i h0 h1
  · rw [e2 k' _ e]; exact arrAt_fr (wr_ne W (by omega)) (F.2.2.1 k' t' hk' hq').2
theorem el_sA {ty : FieldType} (ht : ty ≠ .long) (j x : Int32) : el ty (sA ob k j x) k = fun i => if i = j then .int x else el ty ob k i := by
  funext i; cases ty <;> first | exact absurd rfl ht | (simp only [el, sA, true_and]; split <;> rfl)
theorem el_sJ (j : Int32) (x : Int64) : el .long (sJ ob k j x) k = fun i => if i = j then .long x else el .long ob k i := by
  funext i; simp only [el, sJ, true_and]; split <;> rfl
theorem el_sA' (j x : Int32) (k' : Nat) (t' : FieldType) (ne : k' ≠ k) : el t' (sA ob k j x) k' = el t' ob k' := by
  funext i; cases t' <;> simp [el, sA, ne]
theorem el_sJ' (j : Int32) (x : Int64) (k' : Nat) (t' : FieldType) (ne : k' ≠ k) : el t' (sJ ob k j x) k' = el t' ob k' := by
  funext i; cases t' <;> simp [el, sJ, ne]
theorem Rep.upd (R : Rep Z n0 h (top, (a, q, ob) :: H)) (hs : h'.size = h.size) (hO : Old Z n0 h') (e : ∀ b, (b < a ∨ a + q < b) → h'[b]? = h[b]?) (F : ObjAt Z h' a q ob') : Rep Z n0 h' (top, (a, q, ob') :: H) := by
  obtain ⟨r1, r2, r3, r4⟩ := R
  refine ⟨hs.trans r1, hO, fun x hx => ?_, ?_⟩
  · rcases List.mem_cons.mp hx with rfl | hx
    · exact ⟨(r3 _ (List.mem_cons_self ..)).1, (r3 _ (List.mem_cons_self ..)).2.1, F⟩
    · obtain ⟨p1, p2, p3⟩ := r3 x (List.mem_cons_of_mem _ hx)
      refine ⟨p1, p2, p3.frame fun b h1 h2 => e b ?_⟩
      have := (List.pairwise_cons.mp r4).1 x hx
      simp only at this
      omega
  · have := List.pairwise_cons.mp r4
    exact List.pairwise_cons.mpr ⟨fun y hy => this.1 y hy, this.2⟩
theorem Rep.objs (R : Rep Z n0 h (top, (a, q, ob) :: H)) : n0 ≤ a ∧ a + q < top ∧ ObjAt Z h a q ob := R.2.2.1 _ (List.mem_cons_self ..)
theorem Rep.putI {x : Int32} (hw : ∀ d ∈ tables_1, d.before a0 Z = true) (R : Rep Z n0 h (top, (a, q, ob) :: H)) (hk : K.2.1[k]? = some nd) (W : Wr h h' a (Jvm.RoadKit.slotOf Z K.1 nd.1 nd.2) (.int x)) : Rep Z n0 h' (top, (a, q, sI ob k x) :: H) :=
  R.upd W.size (R.2.1.wr W R.objs.1) (fun b hb => wr_ne W (by omega)) (R.objs.2.2.putI hw hk W)
theorem Rep.putA {x j : Int32} (R : Rep Z n0 h (top, (a, q, ob) :: H)) (hk : K.2.2[k]? = some t) (hq : k < q) (ht : t.2.1 ≠ .long) (hj : ¬ j < 0 ∧ j < t.2.2) (W : Wr h h' (a + 1 + k) j.toNatClampNeg (.int x)) : Rep Z n0 h' (top, (a, q, sA ob k j x) :: H) :=
  R.upd W.size (R.2.1.wr W (by have := R.objs.1; omega)) (fun b hb => wr_ne W (by omega)) (R.objs.2.2.putA hk hq hj W (el_sA ht j x) (fun k' t' ne => el_sA' j x k' t' ne) rfl)
theorem Rep.putJ {j : Int32} {x : Int64} (R : Rep Z n0 h (top, (a, q, ob) :: H)) (hk : K.2.2[k]? = some t) (hq : k < q) (ht : t.2.1 = .long) (hj : ¬ j < 0 ∧ j < t.2.2) (W : Wr h h' (a + 1 + k) j.toNatClampNeg (.long x)) : Rep Z n0 h' (top, (a, q, sJ ob k j x) :: H) :=
  R.upd W.size (R.2.1.wr W (by have := R.objs.1; omega)) (fun b hb => wr_ne W (by omega)) (R.objs.2.2.putA hk hq hj W (by rw [ht]; exact el_sJ j x) (fun k' t' ne => el_sJ' j x k' t' ne) rfl)
theorem Rep.swap {x y : Nat × Nat × Rec} (R : Rep Z n0 h (top, x :: y :: H)) : Rep Z n0 h (top, y :: x :: H) := by
  obtain ⟨r1, r2, r3, r4⟩ := R
  refine ⟨r1, r2, fun z hz => r3 z ?_, ?_⟩
  · simp only [List.mem_cons] at hz ⊢
    rcases hz with e | e | e
    · exact Or.inr (Or.inl e)
    · exact Or.inl e
    · exact Or.inr (Or.inr e)
  · simp only [List.pairwise_cons, List.mem_cons] at r4 ⊢
    obtain ⟨p1, p2, p3⟩ := r4
    refine ⟨fun z hz => ?_, fun z hz => p1 z (Or.inr hz), p3⟩
    rcases hz with rfl | hz
    · exact (p1 _ (Or.inl rfl)).symm
    · exact p2 z hz
theorem ObjAt.addA (hw : ∀ d ∈ tables_1, d.before a0 Z = true) (F : ObjAt Z h a k ob) (hk : K.2.2[k]? = some t) (A : ArrAt Z h (a + 1 + k) t.2.1 t.2.2 (el t.2.1 ob k)) (W : Wr h h' a (Jvm.RoadKit.slotOf Z K.1 t.1 (aD t.2.1)) (.ref (a + 1 + k))) : ObjAt Z h' a (k + 1) ob := by
  refine ⟨F.1.wr W, fun k' nd hk' => ?_, fun k' t' hk' hq => ?_, fun k' t' hk' hq => ?_⟩
  · obtain ⟨ty', hty'⟩ := pfS hk'
    exact (F.2.1 k' nd hk').other W (Or.inr (Jvm.RoadKit.slot_ne (laidS hw hk') (laidA hw hk) (nm_sa hk' hk) hty' (pfA hk)))
  · by_cases e : k' = k
    · subst e
      have et : t = t' := Option.some.inj (hk.symm.trans hk')
      subst et
      exact ⟨(F.2.2.2 k' t hk (Nat.le_refl _)).same W, arrAt_fr (wr_ne W (by omega)) A⟩
    · obtain ⟨f1, f2⟩ := F.2.2.1 k' t' hk' (by omega)
      exact ⟨f1.other W (Or.inr (Jvm.RoadKit.slot_ne (laidA hw hk') (laidA hw hk) (nm_aa hk' hk e) (pfA hk') (pfA hk))), arrAt_fr (wr_ne W (by omega)) f2⟩
  · exact (F.2.2.2 k' t' hk' (by omega)).other W (Or.inr (Jvm.RoadKit.slot_ne (laidA hw hk') (laidA hw hk) (nm_aa hk' hk (by omega)) (pfA hk') (pfA hk)))
theorem Rep.addA {h1 h2 : Heap} (hw : ∀ d ∈ tables_1, d.before a0 Z = true) (R : Rep Z n0 h (top, (a, k, ob) :: H)) (E : Ext h h1) (s1 : h1.size = top + 1) (htop : top = a + 1 + k) (hk : K.2.2[k]? = some t) (A : ArrAt Z h1 top t.2.1 t.2.2 (el t.2.1 ob k)) (W : Wr h1 h2 a (Jvm.RoadKit.slotOf Z K.1 t.1 (aD t.2.1)) (.ref top)) : Rep Z n0 h2 (top + 1, (a, k + 1, ob) :: H) := by
  obtain ⟨q1, q2, q3⟩ := R.objs
  have hp := List.pairwise_cons.mp R.2.2.2
  have hO : ObjAt Z h2 a (k + 1) ob := by
    subst htop
    exact (q3.ext E).addA hw hk A W
  refine ⟨W.size.trans s1, (R.2.1.ext E).wr W q1, List.forall_mem_cons.mpr ⟨⟨q1, ?_, hO⟩, fun x hx => ?_⟩, List.pairwise_cons.mpr ⟨fun y hy => ?_, hp.2⟩⟩
  · show a + (k + 1) < top + 1; omega
  · obtain ⟨p1, p2, p3⟩ := R.2.2.1 x (List.mem_cons_of_mem _ hx)
    have u1 : a + k < x.1 ∨ x.1 + x.2.1 < a := hp.1 x hx
    have u2 : x.1 + x.2.1 < top := p2
    exact ⟨p1, Nat.lt_succ_of_lt u2, (p3.ext E).frame fun b h1 h2 => wr_ne W (by omega)⟩
  · have u1 : a + k < y.1 ∨ y.1 + y.2.1 < a := hp.1 y hy
    have u2 : y.1 + y.2.1 < top := (R.2.2.1 y (List.mem_cons_of_mem _ hy)).2.1
    show a + (k + 1) < y.1 ∨ y.1 + y.2.1 < a
    omega
theorem arr_new {cA : ClassId} {ty : FieldType} {len : Int32} (A : Arr Z h b (newA cA ty len) ty) (hts : ty = .int ∨ ty = .boolean ∨ ty = .long) (hz : (∀ i, ob.2.1 k i = 0) ∧ (∀ i, ob.2.2 k i = 0)) : ArrAt Z h b ty len (el ty ob k) := by
  refine ⟨_, A, sz_new _ _ _, fun i h0 h1 => ?_⟩
  have hi : ¬ (i < 0 ∨ len.toNatClampNeg ≤ i.toNatClampNeg) := by
    have e0 : (0 : Int32).toInt = 0 := rfl
    simp only [Int32.lt_iff_toInt_lt, Int32.toNatClampNeg] at *
    omega
  rw [get_new hi]
  rcases hts with rfl | rfl | rfl
  · show some (Value.int 0) = some (Value.int (ob.2.1 k i)); rw [hz.1]
  · show some (Value.int 0) = some (Value.int (ob.2.1 k i)); rw [hz.1]
  · show some (Value.long 0) = some (Value.long (ob.2.2 k i)); rw [hz.2]
theorem Rep.start (s : State) : Rep s s.heap.size s.heap (s.heap.size, []) := ⟨rfl, Old.start s, fun x hx => (by cases hx), List.Pairwise.nil⟩
end Facts
/- bodies, decode facts, patterns of local variables -/
abbrev Bdy : Type := MethodName × ByteArray × Nat × Option FieldType × Room
def DAt (M : Bdy) (pc : Nat) (i : Instr) (n q : Nat) : Prop := decode M.2.1 pc = .ok (i, n) ∧ q = pc + n
abbrev Pat : Type := List (Option Slot)
abbrev vi (x : Int32) : Option Slot := some (.val (.int x))
abbrev vl (x : Int64) : Option Slot := some (.val (.long x))
abbrev vr (a : Nat) : Option Slot := some (.val (.ref a))
abbrev v2 : Option Slot := some .second
abbrev vn : Option Slot := none
def pget : Pat → Nat → Option Slot
  | [], _ => none
  | x :: _, 0 => x
  | _ :: l, n + 1 => pget l n
theorem pget_eq : ∀ (P : Pat) (i : Nat), pget P i = (P[i]?).join
  | [], _ => by simp [pget]
  | x :: l, 0 => by simp [pget]
  | x :: l, n + 1 => by simp [pget, pget_eq l n]
def pput : Pat → Nat → Option Slot → Pat
  | [], _, _ => []
  | _ :: l, 0, y => y :: l
  | x :: l, n + 1, y => x :: pput l n y
theorem pget_pput : ∀ (P : Pat) (i j : Nat) (y : Option Slot) (s : Slot), pget (pput P i y) j = some s → (j = i ∧ y = some s) ∨ (j ≠ i ∧ pget P j = some s)
  | [], _, _, _, _, h => by simp [pput, pget] at h
  | x :: l, 0, 0, y, s, h => Or.inl ⟨rfl, h⟩
  | x :: l, 0, j + 1, y, s, h => Or.inr ⟨by omega, h⟩
  | x :: l, i + 1, 0, y, s, h => Or.inr ⟨by omega, h⟩
  | x :: l, i + 1, j + 1, y, s, h => by
    rcases pget_pput l i j y s h with ⟨e, r⟩ | ⟨e, r⟩
    · exact Or.inl ⟨by omega, r⟩
    · exact Or.inr ⟨by omega, r⟩
/-- a two-word value whose first word is at i is forgotten -/
def pk1 (P : Pat) (i : Nat) : Pat := match pget P i with
  | some (.val (.long _)) => pput P i none
  | some (.val (.double _)) => pput P i none
  | _ => P
def pk2 (P : Pat) (i : Nat) : Pat := match pget P i with
  | some .second => pput P i none
  | _ => P
def pkp (P : Pat) : Nat → Pat
  | 0 => P
  | i + 1 => pk1 P i
def ps1 (P : Pat) (i : Nat) (v : Value) : Pat := pput (pk2 (pkp P i) (i + 1)) i (some (.val v))
def ps2 (P : Pat) (i : Nat) (v : Value) : Pat := pput (pput (pk2 (pkp P i) (i + 2)) i (some (.val v))) (i + 1) (some .second)
def WFl (L : Array Slot) : Prop := (∀ i : Nat, L[i]? = some .second → ∃ (j : Nat) (v : Value), i = j + 1 ∧ L[j]? = some (.val v) ∧ v.category = 2) ∧ (∀ (i : Nat) (v : Value), L[i]? = some (.val v) → v.category = 2 → L[i + 1]? = some .second)
def Fits (P : Pat) (L : Array Slot) : Prop := (∀ i s, pget P i = some s → L[i]? = some s) ∧ WFl L
theorem pk1_sub {P : Pat} {i j : Nat} {s : Slot} (h : pget (pk1 P i) j = some s) : pget P j = some s ∧ (j = i → ∀ w : Value, s = .val w → w.category = 1) := by
  unfold pk1 at h
  split at h
  · rcases pget_pput _ _ _ _ _ h with ⟨-, e⟩ | ⟨e, r⟩
    · cases e
    · exact ⟨r, fun q => absurd q e⟩
  · rcases pget_pput _ _ _ _ _ h with ⟨-, e⟩ | ⟨e, r⟩
    · cases e
    · exact ⟨r, fun q => absurd q e⟩
  · rename_i h1 h2
    refine ⟨h, fun q w e => ?_⟩
    subst q e
    cases w <;> first | rfl | exact absurd h (h1 _) | exact absurd h (h2 _)
theorem pk2_sub {P : Pat} {i j : Nat} {s : Slot} (h : pget (pk2 P i) j = some s) : pget P j = some s ∧ (j = i → s ≠ .second) := by
  unfold pk2 at h
  split at h
  · rcases pget_pput _ _ _ _ _ h with ⟨-, e⟩ | ⟨e, r⟩
    · cases e
    · exact ⟨r, fun q => absurd q e⟩
  · rename_i h1
    refine ⟨h, fun q e => ?_⟩
    subst q e; exact h1 h
theorem pkp_sub {P : Pat} {i j : Nat} {s : Slot} (h : pget (pkp P i) j = some s) : pget P j = some s ∧ (j + 1 = i → ∀ w : Value, s = .val w → w.category = 1) := by
  cases i with
  | zero => exact ⟨h, fun q => by omega⟩
  | succ i => obtain ⟨h1, h2⟩ := pk1_sub (show pget (pk1 P i) j = some s from h); exact ⟨h1, fun q => h2 (by omega)⟩
theorem setAt_eq {L : Array Slot} {i : Nat} {x : Slot} (hi : i < L.size) : Jvm.setAt L i x = some (L.setIfInBounds i x) := by simp [Jvm.setAt, hi]
theorem sl_second {L : Array Slot} {i : Nat} {v : Value} (ho : L[i]? = some .second) : storeLocals L i v = (Jvm.setAt L (i - 1) .unset).bind fun l => storeSelf l i v := by
  unfold storeLocals; rw [ho]; rfl
theorem sl_unset {L : Array Slot} {i : Nat} {v : Value} (ho : L[i]? = some .unset) : storeLocals L i v = storeSelf L i v := by
  unfold storeLocals; rw [ho]; rfl
theorem sl_val {L : Array Slot} {i : Nat} {v o : Value} (ho : L[i]? = some (.val o)) : storeLocals L i v = if o.category = 2 then (Jvm.setAt L (i + 1) .unset).bind fun l => storeSelf l i v else storeSelf L i v := by
  unfold storeLocals; rw [ho]; rfl
theorem ss_one {L : Array Slot} {i : Nat} {v : Value} (hi : i < L.size) (hv : ¬ v.category = 2) : storeSelf L i v = some (L.setIfInBounds i (.val v)) := by
  unfold storeSelf; rw [setAt_eq hi]; simp [hv]
theorem ss_two {L : Array Slot} {i : Nat} {v : Value} {o : Slot} (hi : i < L.size) (hv : v.category = 2) (ho : L[i + 1]? = some o) : storeSelf L i v = (match o with
    | .val old => if old.category = 2 then (Jvm.setAt (L.setIfInBounds i (.val v)) (i + 2) .unset).bind fun l => Jvm.setAt l (i + 1) .second else Jvm.setAt (L.setIfInBounds i (.val v)) (i + 1) .second
    | _ => Jvm.setAt (L.setIfInBounds i (.val v)) (i + 1) .second) := by
  have e : (L.setIfInBounds i (.val v))[i + 1]? = some o := by rw [Array.getElem?_setIfInBounds_ne (by omega)]; exact ho
  unfold storeSelf; rw [setAt_eq hi]
  show (if v.category = 2 then _ else _) = _
  rw [if_pos hv, e]
  cases o <;> rfl
theorem cat12 (v : Value) : v.category = 1 ∨ v.category = 2 := by cases v <;> first | exact Or.inl rfl | exact Or.inr rfl
/-- a one-word store: what stands elsewhere stays, but for the halves of a two-word value that it breaks -/
theorem store_one {L : Array Slot} {i : Nat} {v : Value} (hW : WFl L) (hi : i < L.size) (hv : v.category = 1) :
    ∃ L', storeLocals L i v = some L' ∧ L'.size = L.size ∧ WFl L' ∧ L'[i]? = some (.val v) ∧ ∀ j, j ≠ i → L'[j]? = L[j]? ∨ (j + 1 = i ∧ L[i]? = some .second) ∨ (j = i + 1 ∧ L[j]? = some .second) := by
  have hv2 : ¬ v.category = 2 := by omega
  cases ho : L[i]? with
  | none => rw [Array.getElem?_eq_none_iff] at ho; omega
  | some o =>
    cases o with
    | unset =>
      refine ⟨L.setIfInBounds i (.val v), ?_, by simp, ?_, by simp [hi], fun j hj => Or.inl (Array.getElem?_setIfInBounds_ne (Ne.symm hj))⟩
      · rw [sl_unset ho, ss_one hi hv2]
      · refine ⟨fun j hj => ?_, fun j w hj hw => ?_⟩
        · by_cases e : j = i
          · subst e; simp [hi] at hj
          · rw [Array.getElem?_setIfInBounds_ne (Ne.symm e)] at hj
            obtain ⟨j', w, e1, e2, e3⟩ := hW.1 j hj
            refine ⟨j', w, e1, ?_, e3⟩
            rw [Array.getElem?_setIfInBounds_ne]; exact e2
            intro q; subst q; rw [ho] at e2; cases e2
        · by_cases e : j = i
          · subst e; simp [hi] at hj; subst hj; omega
          · rw [Array.getElem?_setIfInBounds_ne (Ne.symm e)] at hj
            have := hW.2 j w hj hw
            rw [Array.getElem?_setIfInBounds_ne]; exact this
            intro q; subst q; rw [ho] at this; cases this
    | second =>
      obtain ⟨j0, w0, rfl, f2, f3⟩ := hW.1 i ho
      have hj0 : j0 < L.size := by omega
      refine ⟨(L.setIfInBounds j0 .unset).setIfInBounds (j0 + 1) (.val v), ?_, by simp, ?_, by simp [hi], fun j hj => ?_⟩
      · rw [sl_second ho, show j0 + 1 - 1 = j0 from rfl, setAt_eq hj0]; exact ss_one (by simpa using hi) hv2
      · refine ⟨fun j hj => ?_, fun j w hj hw => ?_⟩
        · by_cases e : j = j0 + 1
          · subst e; simp [hi] at hj
          · rw [Array.getElem?_setIfInBounds_ne (Ne.symm e)] at hj
            by_cases e' : j = j0
            · subst e'; simp [hj0] at hj
            · rw [Array.getElem?_setIfInBounds_ne (Ne.symm e')] at hj
              obtain ⟨j', w, e1, e2, e3⟩ := hW.1 j hj
              refine ⟨j', w, e1, ?_, e3⟩
              rw [Array.getElem?_setIfInBounds_ne, Array.getElem?_setIfInBounds_ne]
              · exact e2
              · intro q; subst q; omega
              · intro q; subst q; rw [ho] at e2; cases e2
        · by_cases e : j = j0 + 1
          · subst e; simp [hi] at hj; subst hj; omega
          · rw [Array.getElem?_setIfInBounds_ne (Ne.symm e)] at hj
            by_cases e' : j = j0
            · subst e'; simp [hj0] at hj
            · rw [Array.getElem?_setIfInBounds_ne (Ne.symm e')] at hj
              have := hW.2 j w hj hw
              rw [Array.getElem?_setIfInBounds_ne, Array.getElem?_setIfInBounds_ne]
              · exact this
              · intro q; subst q; rw [f2] at this; cases this
              · omega
      · by_cases e' : j = j0
        · exact Or.inr (Or.inl ⟨by omega, rfl⟩)
        · left; rw [Array.getElem?_setIfInBounds_ne (Ne.symm hj), Array.getElem?_setIfInBounds_ne (Ne.symm e')]
    | val old =>
      by_cases hc : old.category = 2
      · have f2 := hW.2 i old ho hc
        have hi1 : i + 1 < L.size := (Array.getElem?_eq_some_iff.mp f2).1
        refine ⟨(L.setIfInBounds (i + 1) .unset).setIfInBounds i (.val v), ?_, by simp, ?_, by simp [hi], fun j hj => ?_⟩
        · rw [sl_val ho, if_pos hc, setAt_eq hi1]; exact ss_one (by simpa using hi) hv2
        · refine ⟨fun j hj => ?_, fun j w hj hw => ?_⟩
          · by_cases e : j = i
            · subst e; simp [hi] at hj
            · rw [Array.getElem?_setIfInBounds_ne (Ne.symm e)] at hj
              by_cases e' : j = i + 1
              · subst e'; simp [hi1] at hj
              · rw [Array.getElem?_setIfInBounds_ne (Ne.symm e')] at hj
                obtain ⟨j', w, e1, e2, e3⟩ := hW.1 j hj
                refine ⟨j', w, e1, ?_, e3⟩
                rw [Array.getElem?_setIfInBounds_ne, Array.getElem?_setIfInBounds_ne]
                · exact e2
                · intro q; subst q; rw [f2] at e2; cases e2
                · omega
          · by_cases e : j = i
            · subst e; simp [hi] at hj; subst hj; omega
            · rw [Array.getElem?_setIfInBounds_ne (Ne.symm e)] at hj
              by_cases e' : j = i + 1
              · subst e'; simp [hi1] at hj
              · rw [Array.getElem?_setIfInBounds_ne (Ne.symm e')] at hj
                have := hW.2 j w hj hw
                rw [Array.getElem?_setIfInBounds_ne, Array.getElem?_setIfInBounds_ne]
                · exact this
                · omega
                · intro q; subst q; rw [ho] at this; cases this
        · by_cases e' : j = i + 1
          · subst e'; exact Or.inr (Or.inr ⟨rfl, f2⟩)
          · left; rw [Array.getElem?_setIfInBounds_ne (Ne.symm hj), Array.getElem?_setIfInBounds_ne (Ne.symm e')]
      · refine ⟨L.setIfInBounds i (.val v), ?_, by simp, ?_, by simp [hi], fun j hj => Or.inl (Array.getElem?_setIfInBounds_ne (Ne.symm hj))⟩
        · rw [sl_val ho, if_neg hc, ss_one hi hv2]
        · refine ⟨fun j hj => ?_, fun j w hj hw => ?_⟩
          · by_cases e : j = i
            · subst e; simp [hi] at hj
            · rw [Array.getElem?_setIfInBounds_ne (Ne.symm e)] at hj
              obtain ⟨j', w, e1, e2, e3⟩ := hW.1 j hj
              refine ⟨j', w, e1, ?_, e3⟩
              rw [Array.getElem?_setIfInBounds_ne]; exact e2
              intro q; subst q; rw [ho] at e2; cases e2; omega
          · by_cases e : j = i
            · subst e; simp [hi] at hj; subst hj; omega
            · rw [Array.getElem?_setIfInBounds_ne (Ne.symm e)] at hj
              have := hW.2 j w hj hw
              rw [Array.getElem?_setIfInBounds_ne]; exact this
              intro q; subst q; rw [ho] at this; cases this
theorem Fits.store1 {P : Pat} {L : Array Slot} {i : Nat} {v : Value} (h : Fits P L) (hi : i < L.size) (hv : v.category = 1) :
    ∃ L', storeLocals L i v = some L' ∧ L'.size = L.size ∧ Fits (ps1 P i v) L' := by
  obtain ⟨L', e1, e2, e3, e4, e5⟩ := store_one h.2 hi hv
  refine ⟨L', e1, e2, fun j s hj => ?_, e3⟩
  rcases pget_pput _ _ _ _ _ hj with ⟨rfl, q⟩ | ⟨ne, q⟩
  · rw [e4]; exact q
  · obtain ⟨q1, q2⟩ := pk2_sub q
    obtain ⟨q3, q4⟩ := pkp_sub q1
    have hL := h.1 j s q3
    rcases e5 j ne with r | ⟨r1, r2⟩ | ⟨r1, r2⟩
    · rw [r]; exact hL
    · obtain ⟨j', w, z1, z2, z3⟩ := h.2.1 i r2
      have : j' = j := by omega
      subst this
      rw [hL] at z2; cases z2
      have := q4 r1 w rfl; omega
    · rw [hL] at r2; cases r2
      exact absurd rfl (q2 r1)
theorem st_ph1 {L : Array Slot} {i : Nat} {v : Value} (hW : WFl L) (hi : i + 1 < L.size) :
    ∃ A : Array Slot, storeLocals L i v = storeSelf A i v ∧ A.size = L.size ∧ (∀ j, j ≠ i → j ≠ i + 1 → A[j]? = L[j]? ∨ (j + 1 = i ∧ L[i]? = some .second ∧ A[j]? = some .unset)) ∧ (A[i + 1]? = L[i + 1]? ∨ (A[i + 1]? = some .unset ∧ L[i + 1]? = some .second)) ∧ (L[i]? = some .second → ∀ j, j + 1 = i → A[j]? = some .unset) := by
  have hi0 : i < L.size := by omega
  cases ho : L[i]? with
  | none => rw [Array.getElem?_eq_none_iff] at ho; omega
  | some o =>
    cases o with
    | unset => exact ⟨L, sl_unset ho, rfl, fun j _ _ => Or.inl rfl, Or.inl rfl, fun q => by cases q⟩
    | second =>
      obtain ⟨j0, w0, rfl, f2, f3⟩ := hW.1 i ho
      have hj0 : j0 < L.size := by omega
      refine ⟨L.setIfInBounds j0 .unset, by rw [sl_second ho, show j0 + 1 - 1 = j0 from rfl, setAt_eq hj0]; rfl, by simp, fun j h1 h2 => ?_, Or.inl (Array.getElem?_setIfInBounds_ne (by omega)), fun _ j hj => ?_⟩
      · by_cases e : j = j0
        · subst e; exact Or.inr ⟨rfl, rfl, by simp [hj0]⟩
        · exact Or.inl (Array.getElem?_setIfInBounds_ne (Ne.symm e))
      · have : j = j0 := by omega
        subst this; simp [hj0]
    | val old =>
      by_cases hc : old.category = 2
      · refine ⟨L.setIfInBounds (i + 1) .unset, by rw [sl_val ho, if_pos hc, setAt_eq hi]; rfl, by simp, fun j h1 h2 => Or.inl (Array.getElem?_setIfInBounds_ne (Ne.symm h2)), Or.inr ⟨by simp [hi], hW.2 i old ho hc⟩, fun q => by cases q⟩
      · exact ⟨L, by rw [sl_val ho, if_neg hc], rfl, fun j _ _ => Or.inl rfl, Or.inl rfl, fun q => by cases q⟩
theorem st_ph2 {A : Array Slot} {i : Nat} {v : Value} (hi : i + 1 < A.size) (hv : v.category = 2) (hn : ∀ w : Value, A[i + 1]? = some (.val w) → w.category = 2 → i + 2 < A.size) :
    ∃ L', storeSelf A i v = some L' ∧ L'.size = A.size ∧ L'[i]? = some (.val v) ∧ L'[i + 1]? = some .second ∧ (∀ j, j ≠ i → j ≠ i + 1 → L'[j]? = A[j]? ∨ (j = i + 2 ∧ L'[j]? = some .unset ∧ ∃ w : Value, A[i + 1]? = some (.val w) ∧ w.category = 2)) ∧ ((∃ w : Value, A[i + 1]? = some (.val w) ∧ w.category = 2) → L'[i + 2]? = some .unset) := by
  have hi0 : i < A.size := by omega
  have eB : (A.setIfInBounds i (.val v))[i + 1]? = A[i + 1]? := Array.getElem?_setIfInBounds_ne (by omega)
  have plain : (∀ w : Value, A[i + 1]? = some (.val w) → w.category ≠ 2) → storeSelf A i v = some ((A.setIfInBounds i (.val v)).setIfInBounds (i + 1) .second) := fun hq => by
    cases ho : A[i + 1]? with
    | none => rw [Array.getElem?_eq_none_iff] at ho; omega
    | some o => cases o with
      | unset => rw [ss_two hi0 hv ho]; exact setAt_eq (by simpa using hi)
      | second => rw [ss_two hi0 hv ho]; exact setAt_eq (by simpa using hi)
      | val w => have := hq w ho; rw [ss_two hi0 hv ho]; simp only [if_neg this]; exact setAt_eq (by simpa using hi)
  by_cases hw : ∃ w : Value, A[i + 1]? = some (.val w) ∧ w.category = 2
  · obtain ⟨w, h1, h2⟩ := hw
    have h3 := hn w h1 h2
    refine ⟨((A.setIfInBounds i (.val v)).setIfInBounds (i + 2) .unset).setIfInBounds (i + 1) .second, by rw [ss_two hi0 hv h1]; simp only [if_pos h2]; rw [setAt_eq (by simpa using h3)]; exact setAt_eq (by simpa using hi), by simp, ?_, by simp [hi], fun j a b => ?_, fun _ => ?_⟩
    · rw [Array.getElem?_setIfInBounds_ne (by omega), Array.getElem?_setIfInBounds_ne (by omega)]; simp [hi0]
    · rw [Array.getElem?_setIfInBounds_ne (by omega)]
      by_cases e : j = i + 2
      · subst e; exact Or.inr ⟨rfl, by simp [h3], w, h1, h2⟩
      · left; rw [Array.getElem?_setIfInBounds_ne (by omega), Array.getElem?_setIfInBounds_ne (by omega)]
    · rw [Array.getElem?_setIfInBounds_ne (by omega)]; simp [h3]
  · refine ⟨_, plain fun w h1 h2 => hw ⟨w, h1, h2⟩, by simp, ?_, by simp [hi], fun j a b => Or.inl ?_, fun q => absurd q hw⟩
    · rw [Array.getElem?_setIfInBounds_ne (by omega)]; simp [hi0]
    · rw [Array.getElem?_setIfInBounds_ne (by omega), Array.getElem?_setIfInBounds_ne (by omega)]
theorem store_two {L : Array Slot} {i : Nat} {v : Value} (hW : WFl L) (hi : i + 1 < L.size) (hv : v.category = 2) :
    ∃ L', storeLocals L i v = some L' ∧ L'.size = L.size ∧ WFl L' ∧ L'[i]? = some (.val v) ∧ L'[i + 1]? = some .second ∧ ∀ j, j ≠ i → j ≠ i + 1 → L'[j]? = L[j]? ∨ (j + 1 = i ∧ L[i]? = some .second) ∨ (j = i + 2 ∧ L[j]? = some .second) := by
  obtain ⟨A, a1, a2, a3, a4, a5⟩ := st_ph1 (v := v) hW hi
  have a6 : ∀ w : Value, A[i + 1]? = some (.val w) → w.category = 2 → L[i + 2]? = some .second := fun w h1 h2 => by
    rcases a4 with e | ⟨e, -⟩
    · rw [e] at h1; exact hW.2 _ _ h1 h2
    · rw [e] at h1; cases h1
  obtain ⟨L', b1, b2, b3, b4, b5, b6⟩ := st_ph2 (A := A) (i := i) (v := v) (by omega) hv (fun w h1 h2 => by have := (Array.getElem?_eq_some_iff.mp (a6 w h1 h2)).1; omega)
  have c : ∀ j, j ≠ i → j ≠ i + 1 → L'[j]? = L[j]? ∨ (j + 1 = i ∧ L[i]? = some .second ∧ L'[j]? = some .unset) ∨ (j = i + 2 ∧ L[j]? = some .second ∧ L'[j]? = some .unset) := fun j h1 h2 => by
    rcases b5 j h1 h2 with e | ⟨e1, e2, w, e3, e4⟩
    · rcases a3 j h1 h2 with r | ⟨r1, r2, r3⟩
      · exact Or.inl (e.trans r)
      · exact Or.inr (Or.inl ⟨r1, r2, e.trans r3⟩)
    · subst e1; exact Or.inr (Or.inr ⟨rfl, a6 w e3 e4, e2⟩)
  have cs : L[i]? = some .second → ∀ j, j + 1 = i → L'[j]? = some .unset := fun q j hj => by
    rcases b5 j (by omega) (by omega) with e | ⟨e1, -⟩
    · exact e.trans (a5 q j hj)
    · omega
  have c2 : L[i + 2]? = some .second → L'[i + 2]? = some .unset := fun q => by
    obtain ⟨j', w, z1, z2, z3⟩ := hW.1 _ q
    have : j' = i + 1 := by omega
    subst this
    rcases a4 with e | ⟨-, e⟩
    · exact b6 ⟨w, e.trans z2, z3⟩
    · rw [e] at z2; cases z2
  refine ⟨L', a1.trans b1, b2.trans a2, ⟨fun j hj => ?_, fun j w hj hw => ?_⟩, b3, b4, fun j h1 h2 => ?_⟩
  · by_cases e0 : j = i
    · subst e0; rw [b3] at hj; cases hj
    by_cases e1 : j = i + 1
    · exact ⟨i, v, e1, b3, hv⟩
    rcases c j e0 e1 with r | ⟨-, -, r⟩ | ⟨-, -, r⟩
    · rw [r] at hj
      obtain ⟨j', w, z1, z2, z3⟩ := hW.1 j hj
      refine ⟨j', w, z1, ?_, z3⟩
      have n0 : j' ≠ i := by omega
      by_cases n1 : j' = i + 1
      · have : j = i + 2 := by omega
        subst this
        rw [c2 hj] at r; rw [hj] at r; cases r
      rcases c j' n0 n1 with u | ⟨u, -, -⟩ | ⟨-, u, -⟩
      · exact u.trans z2
      · omega
      · rw [z2] at u; cases u
    · rw [r] at hj; cases hj
    · rw [r] at hj; cases hj
  · by_cases e0 : j = i
    · subst e0; exact b4
    by_cases e1 : j = i + 1
    · subst e1; rw [b4] at hj; cases hj
    rcases c j e0 e1 with r | ⟨-, -, r⟩ | ⟨-, -, r⟩
    · have hj' := hj
      rw [r] at hj
      have z := hW.2 j w hj hw
      by_cases n0 : j + 1 = i
      · subst n0; rw [cs z j rfl] at hj'; cases hj'
      by_cases n1 : j + 1 = i + 1
      · omega
      rcases c (j + 1) n0 n1 with u | ⟨u1, u2, -⟩ | ⟨u, -, -⟩
      · exact u.trans z
      · obtain ⟨j', w', y1, y2, y3⟩ := hW.1 i u2
        have : j' = j + 1 := by omega
        subst this; rw [z] at y2; cases y2
      · omega
    · rw [r] at hj; cases hj
    · rw [r] at hj; cases hj
  · rcases c j h1 h2 with r | ⟨r1, r2, -⟩ | ⟨r1, r2, -⟩
    · exact Or.inl r
    · exact Or.inr (Or.inl ⟨r1, r2⟩)
    · exact Or.inr (Or.inr ⟨r1, r2⟩)
theorem Fits.store2 {P : Pat} {L : Array Slot} {i : Nat} {v : Value} (h : Fits P L) (hi : i + 1 < L.size) (hv : v.category = 2) :
    ∃ L', storeLocals L i v = some L' ∧ L'.size = L.size ∧ Fits (ps2 P i v) L' := by
  obtain ⟨L', e1, e2, e3, e4, e4', e5⟩ := store_two h.2 hi hv
  refine ⟨L', e1, e2, fun j s hj => ?_, e3⟩
  rcases pget_pput _ _ _ _ _ hj with ⟨rfl, q⟩ | ⟨ne, q⟩
  · rw [e4']; exact q
  rcases pget_pput _ _ _ _ _ q with ⟨rfl, q'⟩ | ⟨ne', q'⟩
  · rw [e4]; exact q'
  obtain ⟨q1, q2⟩ := pk2_sub q'
  obtain ⟨q3, q4⟩ := pkp_sub q1
  have hL := h.1 j s q3
  rcases e5 j ne' ne with r | ⟨r1, r2⟩ | ⟨r1, r2⟩
  · rw [r]; exact hL
  · obtain ⟨j', w, z1, z2, z3⟩ := h.2.1 i r2
    have : j' = j := by omega
    subst this
    rw [hL] at z2; cases z2
    have := q4 r1 w rfl; omega
  · rw [hL] at r2; cases r2
    exact absurd rfl (q2 r1)
/- what a body does from a place on -/
def Runs (C : Ctx) (M : Bdy) (k n pc : Nat) (P : Pat) (S : List Value) (G : AH) (Q : Option Value → AH → Prop) : Prop :=
  Ok C → ∀ (p : Program) (e : Env) (s : State) (m : MethodId) (args : Array Value) (below : List Frame) (meth : Method) (c : Code) (T : State) (locs : List Loc) (L : Array Slot),
    p.tables.exec = Jvm.exec → c.code = M.2.1 → c.maxLocals = M.2.2.1 → meth.sig.returnType = M.2.2.2.1 → meth.name = M.1.name → s.vm.findClass M.1.cls = some m.cls → C.2.1.Warmed39 s.vm →
    Fits P L → L.size = M.2.2.1 → Stand p C.1 e M.2.2.2.2 s m args below meth c T locs k n → Rep C.2.1 C.2.2.1 T.heap G → Fr C.2.2.1 locs →
    ∃ (T' : State) (locs' : List Loc) (k' n' : Nat) (r : Option Value) (G' : AH), Stand p C.1 e M.2.2.2.2 s m args below meth c T' locs' k' n' ∧ k' ≤ M.2.2.2.2.cells ∧ n' ≤ M.2.2.2.2.slots ∧ Rep C.2.1 C.2.2.1 T'.heap G' ∧ Fr C.2.2.1 locs' ∧ Q r G' ∧
      (M.2.2.2.1 = none → r = none) ∧
      ∀ fs : List Frame, (∀ (f : JFrame) (acts : List Action), f.method = m → f.locked = none → f.entered = [] → (doReturn e (T'.setTop f) acts r).1 = T'.setFrames fs) → Steps p.tables e below (T.setTop (mkF m pc L S)) (T'.setFrames fs)
section Rules
variable {C : Ctx} {M : Bdy} {k n pc q : Nat} {P P' : Pat} {S S' : List Value} {G : AH} {Q : Option Value → AH → Prop}
/-- a step that leaves the heap alone -/
theorem Runs.pure {i : Instr} {len : Nat} (d : DAt M pc i len q) {pc' : Nat}
    (st : ∀ (p : Program) (e : Env) (s : State) (m : MethodId) (args : Array Value) (below : List Frame) (meth : Method) (c : Code) (T : State) (locs : List Loc) (L : Array Slot), Ok C → p.tables.exec = Jvm.exec → s.vm.findClass M.1.cls = some m.cls → C.2.1.Warmed39 s.vm → decode c.code pc = .ok (i, len) → Fits P L → L.size = M.2.2.1 → Rep C.2.1 C.2.2.1 T.heap G →
      Stand p C.1 e M.2.2.2.2 s m args below meth c T locs k n → ∃ L', Fits P' L' ∧ L'.size = M.2.2.1 ∧ ∀ t, Steps p.tables e below (T.setTop (mkF m pc' L' S')) t → Steps p.tables e below (T.setTop (mkF m pc L S)) t)
    (h : Runs C M k n pc' P' S' G Q) : Runs C M k n pc P S G Q := by
  intro hw p e s m args below meth c T locs L hx hby hml hret hnm hown hZ hP hsz X hR hF
  obtain ⟨L', f1, f2, f3⟩ := st p e s m args below meth c T locs L hw hx hown hZ (hb hby d.1) hP hsz hR X
  obtain ⟨T', locs', k', n', r, G', g1, g2, g3, g4, g5, g6, g7, g8⟩ := h hw p e s m args below meth c T locs L' hx hby hml hret hnm hown hZ f1 f2 X hR hF
  exact ⟨T', locs', k', n', r, G', g1, g2, g3, g4, g5, g6, g7, fun fs hr => f3 _ (g8 fs hr)⟩
/-- a step that keeps the locals and what the heap says -/
theorem Runs.stk {i : Instr} {len : Nat} (d : DAt M pc i len q)
    (st : ∀ (p : Program) (e : Env) (s : State) (m : MethodId) (args : Array Value) (below : List Frame) (meth : Method) (c : Code) (T : State) (locs : List Loc) (L : Array Slot), p.tables.exec = Jvm.exec → decode c.code pc = .ok (i, len) → Fits P L →
      Stand p C.1 e M.2.2.2.2 s m args below meth c T locs k n → ∀ t, Steps p.tables e below (T.setTop (mkF m (pc + len) L S')) t → Steps p.tables e below (T.setTop (mkF m pc L S)) t)
    (h : Runs C M k n q P S' G Q) : Runs C M k n pc P S G Q := by
  have hq := d.2
  subst hq
  exact Runs.pure d (fun p e s m args below meth c T locs L _ hx _ _ hd hP hsz _ X => ⟨L, hP, hsz, st p e s m args below meth c T locs L hx hd hP X⟩) h
theorem Runs.iloadN {j : Fin 4} {v : Int32} (d : DAt M pc (.iload_n j) 1 q) (hl : pget P j.val = vi v) (h : Runs C M k n q P (.int v :: S) G Q) : Runs C M k n pc P S G Q :=
  Runs.stk d (fun p e s m args below meth c T locs L hx hd hP X t r => XS.iloadN (g := mkF m pc L S) X.here hx rfl hd (hP.1 _ _ hl) r) h
theorem Runs.iload {j : Nat} {v : Int32} (d : DAt M pc (.iload j) 2 q) (hl : pget P j = vi v) (h : Runs C M k n q P (.int v :: S) G Q) : Runs C M k n pc P S G Q :=
  Runs.stk d (fun p e s m args below meth c T locs L hx hd hP X t r => XS.iload (g := mkF m pc L S) X.here hx rfl hd (hP.1 _ _ hl) r) h
theorem Runs.lloadN {j : Fin 4} {v : Int64} (d : DAt M pc (.lload_n j) 1 q) (hl : pget P j.val = vl v) (h : Runs C M k n q P (.long v :: S) G Q) : Runs C M k n pc P S G Q :=
  Runs.stk d (fun p e s m args below meth c T locs L hx hd hP X t r => XS.lloadN (g := mkF m pc L S) X.here hx rfl hd (hP.1 _ _ hl) r) h
theorem Runs.lload {j : Nat} {v : Int64} (d : DAt M pc (.lload j) 2 q) (hl : pget P j = vl v) (h : Runs C M k n q P (.long v :: S) G Q) : Runs C M k n pc P S G Q :=
  Runs.stk d (fun p e s m args below meth c T locs L hx hd hP X t r => XS.lload (g := mkF m pc L S) X.here hx rfl hd (hP.1 _ _ hl) r) h
theorem Runs.aloadN {j : Fin 4} {v : Nat} (d : DAt M pc (.aload_n j) 1 q) (hl : pget P j.val = vr v) (h : Runs C M k n q P (.ref v :: S) G Q) : Runs C M k n pc P S G Q :=
  Runs.stk d (fun p e s m args below meth c T locs L hx hd hP X t r => XS.aloadN (g := mkF m pc L S) X.here hx rfl hd (hP.1 _ _ hl) rfl r) h
theorem Runs.aload {j : Nat} {v : Nat} (d : DAt M pc (.aload j) 2 q) (hl : pget P j = vr v) (h : Runs C M k n q P (.ref v :: S) G Q) : Runs C M k n pc P S G Q :=
  Runs.stk d (fun p e s m args below meth c T locs L hx hd hP X t r => XS.aload (g := mkF m pc L S) X.here hx rfl hd (hP.1 _ _ hl) rfl r) h
theorem Runs.iconst {i : Int} {v : Int32} (d : DAt M pc (.iconst i) 1 q) (hv : Int32.ofInt i = v) (h : Runs C M k n q P (.int v :: S) G Q) : Runs C M k n pc P S G Q :=
  Runs.stk d (fun p e s m args below meth c T locs L hx hd hP X t r => XS.iconst (g := mkF m pc L S) X.here hx rfl hd (by rw [hv]; exact r)) h
theorem Runs.bipush {i : Int} {v : Int32} (d : DAt M pc (.bipush i) 2 q) (hv : (Int8.ofInt i).toInt32 = v) (h : Runs C M k n q P (.int v :: S) G Q) : Runs C M k n pc P S G Q :=
  Runs.stk d (fun p e s m args below meth c T locs L hx hd hP X t r => XS.bipush (g := mkF m pc L S) X.here hx rfl hd (by rw [hv]; exact r)) h
theorem Runs.sipush {i : Int} {v : Int32} (d : DAt M pc (.sipush i) 3 q) (hv : (Int16.ofInt i).toInt32 = v) (h : Runs C M k n q P (.int v :: S) G Q) : Runs C M k n pc P S G Q :=
  Runs.stk d (fun p e s m args below meth c T locs L hx hd hP X t r => XS.sipush (g := mkF m pc L S) X.here hx rfl hd (by rw [hv]; exact r)) h
theorem Runs.lconst {i : Fin 2} {v : Int64} (d : DAt M pc (.lconst i) 1 q) (hv : Int64.ofNat i = v) (h : Runs C M k n q P (.long v :: S) G Q) : Runs C M k n pc P S G Q :=
  Runs.stk d (fun p e s m args below meth c T locs L hx hd hP X t r => Jvm.Free.XT.lconstV (g := mkF m pc L S) X.here hx rfl v hd hv r) h
theorem Runs.ldc {i : Nat} {v : Int32} (d : DAt M pc (.ldc i) 2 q) (w : Jvm.Cond.constant M.1.cls i v ∈ tables_1) (h : Runs C M k n q P (.int v :: S) G Q) : Runs C M k n pc P S G Q := by
  have hq := d.2
  subst hq
  exact Runs.pure d (fun p e s m args below meth c T locs L hw hx hown hZ hd hP hsz _ X => ⟨L, hP, hsz, fun t r => X.ldcInt hx hown (mvT hZ (hw _ w)) (g := mkF m pc L S) rfl hd t r⟩) h
theorem Runs.ldc2 {i : Nat} {v : Int64} (d : DAt M pc (.ldc2_w i) 3 q) (w : Jvm.Cond.constantLong M.1.cls i v ∈ tables_1) (h : Runs C M k n q P (.long v :: S) G Q) : Runs C M k n pc P S G Q := by
  have hq := d.2
  subst hq
  exact Runs.pure d (fun p e s m args below meth c T locs L hw hx hown hZ hd hP hsz _ X => ⟨L, hP, hsz, fun t r => X.ldc2Long hx hown (mvT hZ (hw _ w)) (g := mkF m pc L S) rfl hd t r⟩) h
theorem Runs.iadd {x y : Int32} (d : DAt M pc .iadd 1 q) (h : Runs C M k n q P (.int (x + y) :: S) G Q) : Runs C M k n pc P (.int y :: .int x :: S) G Q :=
  Runs.stk d (fun p e s m args below meth c T locs L hx hd hP X t r => XS.iadd (g := mkF m pc L (.int y :: .int x :: S)) X.here hx rfl hd rfl r) h
theorem Runs.isub {x y : Int32} (d : DAt M pc .isub 1 q) (h : Runs C M k n q P (.int (x - y) :: S) G Q) : Runs C M k n pc P (.int y :: .int x :: S) G Q :=
  Runs.stk d (fun p e s m args below meth c T locs L hx hd hP X t r => XS.isub (g := mkF m pc L (.int y :: .int x :: S)) X.here hx rfl hd rfl r) h
theorem Runs.imul {x y : Int32} (d : DAt M pc .imul 1 q) (h : Runs C M k n q P (.int (x * y) :: S) G Q) : Runs C M k n pc P (.int y :: .int x :: S) G Q :=
  Runs.stk d (fun p e s m args below meth c T locs L hx hd hP X t r => XS.imul (g := mkF m pc L (.int y :: .int x :: S)) X.here hx rfl hd rfl r) h
theorem Runs.iand {x y : Int32} (d : DAt M pc .iand 1 q) (h : Runs C M k n q P (.int (x &&& y) :: S) G Q) : Runs C M k n pc P (.int y :: .int x :: S) G Q :=
  Runs.stk d (fun p e s m args below meth c T locs L hx hd hP X t r => XS.iand (g := mkF m pc L (.int y :: .int x :: S)) X.here hx rfl hd rfl r) h
theorem Runs.ior {x y : Int32} (d : DAt M pc .ior 1 q) (h : Runs C M k n q P (.int (x ||| y) :: S) G Q) : Runs C M k n pc P (.int y :: .int x :: S) G Q :=
  Runs.stk d (fun p e s m args below meth c T locs L hx hd hP X t r => XS.ior (g := mkF m pc L (.int y :: .int x :: S)) X.here hx rfl hd rfl r) h
theorem Runs.ixor {x y : Int32} (d : DAt M pc .ixor 1 q) (h : Runs C M k n q P (.int (x ^^^ y) :: S) G Q) : Runs C M k n pc P (.int y :: .int x :: S) G Q :=
  Runs.stk d (fun p e s m args below meth c T locs L hx hd hP X t r => XS.ixor (g := mkF m pc L (.int y :: .int x :: S)) X.here hx rfl hd rfl r) h
theorem Runs.ladd {x y : Int64} (d : DAt M pc .ladd 1 q) (h : Runs C M k n q P (.long (x + y) :: S) G Q) : Runs C M k n pc P (.long y :: .long x :: S) G Q :=
  Runs.stk d (fun p e s m args below meth c T locs L hx hd hP X t r => XS.ladd (g := mkF m pc L (.long y :: .long x :: S)) X.here hx rfl hd rfl r) h
theorem Runs.lsub {x y : Int64} (d : DAt M pc .lsub 1 q) (h : Runs C M k n q P (.long (x - y) :: S) G Q) : Runs C M k n pc P (.long y :: .long x :: S) G Q :=
  Runs.stk d (fun p e s m args below meth c T locs L hx hd hP X t r => XS.lsub (g := mkF m pc L (.long y :: .long x :: S)) X.here hx rfl hd rfl r) h
theorem Runs.lmul {x y : Int64} (d : DAt M pc .lmul 1 q) (h : Runs C M k n q P (.long (x * y) :: S) G Q) : Runs C M k n pc P (.long y :: .long x :: S) G Q :=
  Runs.stk d (fun p e s m args below meth c T locs L hx hd hP X t r => XS.lmul (g := mkF m pc L (.long y :: .long x :: S)) X.here hx rfl hd rfl r) h
theorem Runs.land {x y : Int64} (d : DAt M pc .land 1 q) (h : Runs C M k n q P (.long (x &&& y) :: S) G Q) : Runs C M k n pc P (.long y :: .long x :: S) G Q :=
  Runs.stk d (fun p e s m args below meth c T locs L hx hd hP X t r => XS.land (g := mkF m pc L (.long y :: .long x :: S)) X.here hx rfl hd rfl r) h
theorem Runs.lor {x y : Int64} (d : DAt M pc .lor 1 q) (h : Runs C M k n q P (.long (x ||| y) :: S) G Q) : Runs C M k n pc P (.long y :: .long x :: S) G Q :=
  Runs.stk d (fun p e s m args below meth c T locs L hx hd hP X t r => XS.lor (g := mkF m pc L (.long y :: .long x :: S)) X.here hx rfl hd rfl r) h
theorem Runs.lxor {x y : Int64} (d : DAt M pc .lxor 1 q) (h : Runs C M k n q P (.long (x ^^^ y) :: S) G Q) : Runs C M k n pc P (.long y :: .long x :: S) G Q :=
  Runs.stk d (fun p e s m args below meth c T locs L hx hd hP X t r => XS.lxor (g := mkF m pc L (.long y :: .long x :: S)) X.here hx rfl hd rfl r) h
theorem Runs.ishl {x : Int32} {y : Int32} (d : DAt M pc .ishl 1 q) (h : Runs C M k n q P (.int (x <<< (y &&& 31)) :: S) G Q) : Runs C M k n pc P (.int y :: .int x :: S) G Q :=
  Runs.stk d (fun p e s m args below meth c T locs L hx hd hP X t r => XS.ishl (g := mkF m pc L (.int y :: .int x :: S)) X.here hx rfl hd rfl r) h
theorem Runs.ishr {x : Int32} {y : Int32} (d : DAt M pc .ishr 1 q) (h : Runs C M k n q P (.int (x >>> (y &&& 31)) :: S) G Q) : Runs C M k n pc P (.int y :: .int x :: S) G Q :=
  Runs.stk d (fun p e s m args below meth c T locs L hx hd hP X t r => XS.ishr (g := mkF m pc L (.int y :: .int x :: S)) X.here hx rfl hd rfl r) h
theorem Runs.iushr {x : Int32} {y : Int32} (d : DAt M pc .iushr 1 q) (h : Runs C M k n q P (.int ((x.toUInt32 >>> (y &&& 31).toUInt32).toInt32) :: S) G Q) : Runs C M k n pc P (.int y :: .int x :: S) G Q :=
  Runs.stk d (fun p e s m args below meth c T locs L hx hd hP X t r => XS.iushr (g := mkF m pc L (.int y :: .int x :: S)) X.here hx rfl hd rfl r) h
theorem Runs.lshl {x : Int64} {y : Int32} (d : DAt M pc .lshl 1 q) (h : Runs C M k n q P (.long (x <<< (y &&& 0x3f).toInt64) :: S) G Q) : Runs C M k n pc P (.int y :: .long x :: S) G Q :=
  Runs.stk d (fun p e s m args below meth c T locs L hx hd hP X t r => XS.lshl (g := mkF m pc L (.int y :: .long x :: S)) X.here hx rfl hd rfl r) h
theorem Runs.lshr {x : Int64} {y : Int32} (d : DAt M pc .lshr 1 q) (h : Runs C M k n q P (.long (x >>> (y &&& 0x3f).toInt64) :: S) G Q) : Runs C M k n pc P (.int y :: .long x :: S) G Q :=
  Runs.stk d (fun p e s m args below meth c T locs L hx hd hP X t r => XS.lshr (g := mkF m pc L (.int y :: .long x :: S)) X.here hx rfl hd rfl r) h
theorem Runs.lushr {x : Int64} {y : Int32} (d : DAt M pc .lushr 1 q) (h : Runs C M k n q P (.long ((x.toUInt64 >>> (y &&& 0x3f).toInt64.toUInt64).toInt64) :: S) G Q) : Runs C M k n pc P (.int y :: .long x :: S) G Q :=
  Runs.stk d (fun p e s m args below meth c T locs L hx hd hP X t r => XS.lushr (g := mkF m pc L (.int y :: .long x :: S)) X.here hx rfl hd rfl r) h
theorem Runs.ineg {x : Int32} (d : DAt M pc .ineg 1 q) (h : Runs C M k n q P (.int (-x) :: S) G Q) : Runs C M k n pc P (.int x :: S) G Q :=
  Runs.stk d (fun p e s m args below meth c T locs L hx hd hP X t r => XS.ineg (g := mkF m pc L (.int x :: S)) X.here hx rfl hd rfl r) h
theorem Runs.lneg {x : Int64} (d : DAt M pc .lneg 1 q) (h : Runs C M k n q P (.long (-x) :: S) G Q) : Runs C M k n pc P (.long x :: S) G Q :=
  Runs.stk d (fun p e s m args below meth c T locs L hx hd hP X t r => XS.lneg (g := mkF m pc L (.long x :: S)) X.here hx rfl hd rfl r) h
theorem Runs.i2l {x : Int32} (d : DAt M pc .i2l 1 q) (h : Runs C M k n q P (.long x.toInt64 :: S) G Q) : Runs C M k n pc P (.int x :: S) G Q :=
  Runs.stk d (fun p e s m args below meth c T locs L hx hd hP X t r => XS.i2l (g := mkF m pc L (.int x :: S)) X.here hx rfl hd rfl r) h
theorem Runs.l2i {x : Int64} (d : DAt M pc .l2i 1 q) (h : Runs C M k n q P (.int x.toInt32 :: S) G Q) : Runs C M k n pc P (.long x :: S) G Q :=
  Runs.stk d (fun p e s m args below meth c T locs L hx hd hP X t r => XS.l2i (g := mkF m pc L (.long x :: S)) X.here hx rfl hd rfl r) h
theorem Runs.lcmp {x y : Int64} (d : DAt M pc .lcmp 1 q) (h : Runs C M k n q P (.int (lcmpW x y) :: S) G Q) : Runs C M k n pc P (.long y :: .long x :: S) G Q :=
  Runs.stk d (fun p e s m args below meth c T locs L hx hd hP X t r => XS.lcmp (g := mkF m pc L (.long y :: .long x :: S)) X.here hx rfl hd rfl r) h
theorem Runs.idiv {x y : Int32} (d : DAt M pc .idiv 1 q) (hy : y ≠ 0) (h : Runs C M k n q P (.int (x / y) :: S) G Q) : Runs C M k n pc P (.int y :: .int x :: S) G Q :=
  Runs.stk d (fun p e s m args below meth c T locs L hx hd hP X t r => XS.idiv (g := mkF m pc L (.int y :: .int x :: S)) X.here hx rfl hd rfl hy r) h
theorem Runs.irem {x y : Int32} (d : DAt M pc .irem 1 q) (hy : y ≠ 0) (h : Runs C M k n q P (.int (x % y) :: S) G Q) : Runs C M k n pc P (.int y :: .int x :: S) G Q :=
  Runs.stk d (fun p e s m args below meth c T locs L hx hd hP X t r => iremM (g := mkF m pc L (.int y :: .int x :: S)) X hx rfl hd rfl hy r) h
theorem Runs.dup {x : Value} (d : DAt M pc .dup 1 q) (hc : x.category = 1) (h : Runs C M k n q P (x :: x :: S) G Q) : Runs C M k n pc P (x :: S) G Q :=
  Runs.stk d (fun p e s m args below meth c T locs L hx hd hP X t r => XS.dup (g := mkF m pc L (x :: S)) X.here hx rfl hd rfl hc r) h
theorem Runs.dup2 {x y : Value} (d : DAt M pc .dup2 1 q) (hc : x.category = 1) (hc' : y.category = 1) (h : Runs C M k n q P (x :: y :: x :: y :: S) G Q) : Runs C M k n pc P (x :: y :: S) G Q :=
  Runs.stk d (fun p e s m args below meth c T locs L hx hd hP X t r => Jvm.Free.XT.dup2 (g := mkF m pc L (x :: y :: S)) X.here hx rfl hd rfl hc hc' r) h
theorem Runs.pop {x : Value} (d : DAt M pc .pop 1 q) (hc : x.category = 1) (h : Runs C M k n q P S G Q) : Runs C M k n pc P (x :: S) G Q :=
  Runs.stk d (fun p e s m args below meth c T locs L hx hd hP X t r => XS.pop (g := mkF m pc L (x :: S)) X.here hx rfl hd rfl hc r) h
theorem Runs.goto {o : Int} {pc' : Nat} (d : DAt M pc (.goto o) 3 q) (ho : 0 ≤ (pc : Int) + o ∧ ((pc : Int) + o).toNat = pc') (h : Runs C M k n pc' P S G Q) : Runs C M k n pc P S G Q :=
  Runs.pure d (fun p e s m args below meth c T locs L hw hx hown hZ hd hP hsz _ X => ⟨L, hP, hsz, fun t r => XS.goto (g := mkF m pc L S) X.here hx rfl (pc0 := pc) rfl hd ho.1 ho.2 r⟩) h
theorem Runs.ifY {cd : ClassFile.Cond} {x : Int32} {o : Int} {pc' : Nat} (d : DAt M pc (.ifCond cd o) 3 q) (hc : if_icmp.holds cd x 0 = true) (ho : 0 ≤ (pc : Int) + o ∧ ((pc : Int) + o).toNat = pc') (h : Runs C M k n pc' P S G Q) : Runs C M k n pc P (.int x :: S) G Q :=
  Runs.pure d (fun p e s m args below meth c T locs L hw hx hown hZ hd hP hsz _ X => ⟨L, hP, hsz, fun t r => XS.ifYes (g := mkF m pc L (.int x :: S)) X.here hx rfl (pc0 := pc) rfl hd rfl ((if0 _ _).trans hc) ho.1 ho.2 r⟩) h
theorem Runs.ifN {cd : ClassFile.Cond} {x : Int32} {o : Int} (d : DAt M pc (.ifCond cd o) 3 q) (hc : if_icmp.holds cd x 0 = false) (h : Runs C M k n q P S G Q) : Runs C M k n pc P (.int x :: S) G Q :=
  Runs.stk d (fun p e s m args below meth c T locs L hx hd hP X t r => XS.ifNo (g := mkF m pc L (.int x :: S)) X.here hx rfl hd rfl ((if0 _ _).trans hc) r) h
theorem Runs.icY {cd : ClassFile.Cond} {x y : Int32} {o : Int} {pc' : Nat} (d : DAt M pc (.if_icmp cd o) 3 q) (hc : if_icmp.holds cd x y = true) (ho : 0 ≤ (pc : Int) + o ∧ ((pc : Int) + o).toNat = pc') (h : Runs C M k n pc' P S G Q) : Runs C M k n pc P (.int y :: .int x :: S) G Q :=
  Runs.pure d (fun p e s m args below meth c T locs L hw hx hown hZ hd hP hsz _ X => ⟨L, hP, hsz, fun t r => XS.icmpYes (g := mkF m pc L (.int y :: .int x :: S)) X.here hx rfl (pc0 := pc) rfl hd rfl hc ho.1 ho.2 r⟩) h
theorem Runs.icN {cd : ClassFile.Cond} {x y : Int32} {o : Int} (d : DAt M pc (.if_icmp cd o) 3 q) (hc : if_icmp.holds cd x y = false) (h : Runs C M k n q P S G Q) : Runs C M k n pc P (.int y :: .int x :: S) G Q :=
  Runs.stk d (fun p e s m args below meth c T locs L hx hd hP X t r => XS.icmpNo (g := mkF m pc L (.int y :: .int x :: S)) X.here hx rfl hd rfl hc r) h
theorem Runs.tswI {dflt low high : Int} {offs : Array Int} {len : Nat} {o : Int} {pc' : Nat} {i : Int32} (d : DAt M pc (.tableswitch dflt low high offs) len q) (hin : ¬ (i.toInt < low ∨ i.toInt > high)) (hoff : offs[(i.toInt - low).toNat]? = some o) (ho : 0 ≤ (pc : Int) + o ∧ ((pc : Int) + o).toNat = pc') (h : Runs C M k n pc' P S G Q) : Runs C M k n pc P (.int i :: S) G Q :=
  Runs.pure d (fun p e s m args below meth c T locs L hw hx hown hZ hd hP hsz _ X => ⟨L, hP, hsz, fun t r => XS.tswIn (g := mkF m pc L (.int i :: S)) X.here hx rfl (pc0 := pc) rfl hd rfl hin hoff ho.1 ho.2 r⟩) h
theorem Runs.tswO {dflt low high : Int} {offs : Array Int} {len : Nat} {pc' : Nat} {i : Int32} (d : DAt M pc (.tableswitch dflt low high offs) len q) (hout : i.toInt < low ∨ i.toInt > high) (ho : 0 ≤ (pc : Int) + dflt ∧ ((pc : Int) + dflt).toNat = pc') (h : Runs C M k n pc' P S G Q) : Runs C M k n pc P (.int i :: S) G Q :=
  Runs.pure d (fun p e s m args below meth c T locs L hw hx hown hZ hd hP hsz _ X => ⟨L, hP, hsz, fun t r => XS.tswOut (g := mkF m pc L (.int i :: S)) X.here hx rfl (pc0 := pc) rfl hd rfl hout ho.1 ho.2 r⟩) h
theorem Runs.istoreN {j : Fin 4} {x : Int32} (d : DAt M pc (.istore_n j) 1 q) (hi : j.val < M.2.2.1) (hP' : ps1 P j.val (.int x) = P') (h : Runs C M k n q P' S G Q) : Runs C M k n pc P (.int x :: S) G Q := by
  have hq := d.2
  subst hq hP'
  refine Runs.pure d (fun p e s m args below meth c T locs L hw hx hown hZ hd hP hsz _ X => ?_) h
  obtain ⟨L', e1, e2, e3⟩ := hP.store1 (i := j.val) (v := .int x) (by omega) rfl
  exact ⟨L', e3, e2.trans hsz, fun t r => XS.istoreN (g := mkF m pc L (.int x :: S)) X.here hx rfl hd rfl e1 r⟩
theorem Runs.istore {j : Nat} {x : Int32} (d : DAt M pc (.istore j) 2 q) (hi : j < M.2.2.1) (hP' : ps1 P j (.int x) = P') (h : Runs C M k n q P' S G Q) : Runs C M k n pc P (.int x :: S) G Q := by
  have hq := d.2
  subst hq hP'
  refine Runs.pure d (fun p e s m args below meth c T locs L hw hx hown hZ hd hP hsz _ X => ?_) h
  obtain ⟨L', e1, e2, e3⟩ := hP.store1 (i := j) (v := .int x) (by omega) rfl
  exact ⟨L', e3, e2.trans hsz, fun t r => XS.istore (g := mkF m pc L (.int x :: S)) X.here hx rfl hd rfl e1 r⟩
theorem Runs.astoreN {j : Fin 4} {x : Nat} (d : DAt M pc (.astore_n j) 1 q) (hi : j.val < M.2.2.1) (hP' : ps1 P j.val (.ref x) = P') (h : Runs C M k n q P' S G Q) : Runs C M k n pc P (.ref x :: S) G Q := by
  have hq := d.2
  subst hq hP'
  refine Runs.pure d (fun p e s m args below meth c T locs L hw hx hown hZ hd hP hsz _ X => ?_) h
  obtain ⟨L', e1, e2, e3⟩ := hP.store1 (i := j.val) (v := .ref x) (by omega) rfl
  exact ⟨L', e3, e2.trans hsz, fun t r => XS.astoreN (g := mkF m pc L (.ref x :: S)) X.here hx rfl hd rfl rfl e1 r⟩
theorem Runs.astore {j : Nat} {x : Nat} (d : DAt M pc (.astore j) 2 q) (hi : j < M.2.2.1) (hP' : ps1 P j (.ref x) = P') (h : Runs C M k n q P' S G Q) : Runs C M k n pc P (.ref x :: S) G Q := by
  have hq := d.2
  subst hq hP'
  refine Runs.pure d (fun p e s m args below meth c T locs L hw hx hown hZ hd hP hsz _ X => ?_) h
  obtain ⟨L', e1, e2, e3⟩ := hP.store1 (i := j) (v := .ref x) (by omega) rfl
  exact ⟨L', e3, e2.trans hsz, fun t r => XS.astore (g := mkF m pc L (.ref x :: S)) X.here hx rfl hd rfl rfl e1 r⟩
theorem Runs.lstoreN {j : Fin 4} {x : Int64} (d : DAt M pc (.lstore_n j) 1 q) (hi : j.val + 1 < M.2.2.1) (hP' : ps2 P j.val (.long x) = P') (h : Runs C M k n q P' S G Q) : Runs C M k n pc P (.long x :: S) G Q := by
  have hq := d.2
  subst hq hP'
  refine Runs.pure d (fun p e s m args below meth c T locs L hw hx hown hZ hd hP hsz _ X => ?_) h
  obtain ⟨L', e1, e2, e3⟩ := hP.store2 (i := j.val) (v := .long x) (by omega) rfl
  exact ⟨L', e3, e2.trans hsz, fun t r => XS.lstoreN (g := mkF m pc L (.long x :: S)) X.here hx rfl hd rfl e1 r⟩
theorem Runs.lstore {j : Nat} {x : Int64} (d : DAt M pc (.lstore j) 2 q) (hi : j + 1 < M.2.2.1) (hP' : ps2 P j (.long x) = P') (h : Runs C M k n q P' S G Q) : Runs C M k n pc P (.long x :: S) G Q := by
  have hq := d.2
  subst hq hP'
  refine Runs.pure d (fun p e s m args below meth c T locs L hw hx hown hZ hd hP hsz _ X => ?_) h
  obtain ⟨L', e1, e2, e3⟩ := hP.store2 (i := j) (v := .long x) (by omega) rfl
  exact ⟨L', e3, e2.trans hsz, fun t r => XS.lstore (g := mkF m pc L (.long x :: S)) X.here hx rfl hd rfl e1 r⟩
theorem Runs.iinc {j : Nat} {cst : Int} {x v : Int32} (d : DAt M pc (.iinc j cst) 3 q) (hv : Int32.ofInt cst = v) (hl : pget P j = vi x) (hi : j < M.2.2.1) (hP' : ps1 P j (.int (x + v)) = P') (h : Runs C M k n q P' S G Q) : Runs C M k n pc P S G Q := by
  have hq := d.2
  subst hq hP' hv
  refine Runs.pure d (fun p e s m args below meth c T locs L hw hx hown hZ hd hP hsz _ X => ?_) h
  obtain ⟨L', e1, e2, e3⟩ := hP.store1 (i := j) (v := .int (x + Int32.ofInt cst)) (by omega) rfl
  exact ⟨L', e3, e2.trans hsz, fun t r => XS.iinc (g := mkF m pc L S) X.here hx rfl hd (hP.1 _ _ hl) e1 r⟩
/-- less is known of the locals -/
def psub : Pat → Pat → Prop
  | [], _ => True
  | none :: l, _ :: l' => psub l l'
  | some s :: l, y :: l' => y = some s ∧ psub l l'
  | none :: l, [] => psub l []
  | some _ :: _, [] => False
theorem psub_get : ∀ (P P' : Pat), psub P P' → ∀ i s, pget P i = some s → pget P' i = some s
  | [], _, _, i, s, h => by simp [pget] at h
  | none :: l, _ :: l', H, 0, s, h => by simp [pget] at h
  | none :: l, _ :: l', H, i + 1, s, h => psub_get l l' H i s h
  | some x :: l, y :: l', H, 0, s, h => by rw [show y = some x from H.1]; exact h
  | some x :: l, y :: l', H, i + 1, s, h => psub_get l l' H.2 i s h
  | none :: l, [], H, 0, s, h => by simp [pget] at h
  | none :: l, [], H, i + 1, s, h => by have := psub_get l [] H i s h; simp [pget] at this
  | some _ :: _, [], H, _, _, _ => H.elim
theorem Runs.weak (hP : psub P' P) (h : Runs C M k n pc P' S G Q) : Runs C M k n pc P S G Q := by
  intro hw p e s m args below meth c T locs L hx hby hml hret hnm hown hZ hf
  exact h hw p e s m args below meth c T locs L hx hby hml hret hnm hown hZ ⟨fun i s hi => hf.1 i s (psub_get _ _ hP i s hi), hf.2⟩
theorem Runs.swap {top : Nat} {x y : Nat × Nat × Rec} {H : List (Nat × Nat × Rec)} (h : Runs C M k n pc P S (top, y :: x :: H) Q) : Runs C M k n pc P S (top, x :: y :: H) Q := by
  intro hw p e s m args below meth c T locs L hx hby hml hret hnm hown hZ hf hsz X hR hF
  exact h hw p e s m args below meth c T locs L hx hby hml hret hnm hown hZ hf hsz X hR.swap hF
end Rules
/- the steps that touch the heap -/
section Made
variable {p : Program} {l : Launch} {e : Env} {R : Room} {s : State} {m : MethodId} {args : Array Value} {below : List Frame} {meth : Method} {c : Code} {T : State} {locs : List Loc} {cells slots : Nat} {Z : State} {a0 : Array Value}
theorem ext_push (h : Heap) (x : Cell) : Ext h (h.push x) := ⟨by simp, fun a c q => by rw [Array.getElem?_push_lt (Array.getElem?_eq_some_iff.mp q).1]; exact (Array.getElem?_eq_getElem _).symm.trans q⟩
/-- 'new', with the heap's size behind it -/
theorem new1 (X : Stand p l e R s m args below meth c T locs cells slots) (hx : p.tables.exec = Jvm.exec) (hZ : Z.Warmed39 s.vm) {own C : String} {index n : Nat} (hown : s.vm.findClass own = some m.cls) (w : (Jvm.Cond.classLink own index C).before a0 Z = true) (wi : (Jvm.Cond.instantiable C n).before a0 Z = true) (wz : (Jvm.Cond.initialized C).before a0 Z = true)
    {g : JFrame} (hg : g.method = m) (hd : decode c.code g.pc = .ok (.new index, 3)) (hc : cells + 1 ≤ R.cells) (hl : slots + n ≤ R.slots) :
    ∃ T', Stand p l e R s m args below meth c T' locs (cells + 1) (slots + n) ∧ T'.heap.size = T.heap.size + 1 ∧ Ext T.heap T'.heap ∧ Exa Z T'.heap T.heap.size C ∧ (∀ {O nm d : String} {ty : FieldType}, Laid Z a0 C O nm d → parseFieldDescriptor d = some ty → Fld Z T'.heap T.heap.size O nm d (defaultValue ty)) ∧
      ∀ target, Steps p.tables e below (T'.setTop { g with pc := g.pc + 3, stack := .ref T.heap.size :: g.stack }) target → Steps p.tables e below (T.setTop g) target := by
  obtain ⟨vm', cC, kC, h1, h2, h3, h4, X', st⟩ := X.newCold hx hown (mv hZ w) (mv hZ wi) (mv hZ wz) hg hd hc hl
  rw [hZ.alike.findClass] at h1
  obtain ⟨kZ, z1, -⟩ := Vm.findClass_spec h1
  obtain ⟨k', z2, z3⟩ := hZ.alike.2.2 _ _ z1
  have ek : kC.instanceTypes = kZ.instanceTypes := by rw [Option.some.inj (h2.symm.trans z2), z3]
  obtain ⟨cell, hcell⟩ : ∃ cell : Cell, cell = { cls := cC, slots := kC.instanceTypes.map defaultValue, vm := .none } := ⟨_, rfl⟩
  rw [← hcell] at X' st
  have hp : ((T.setVm vm').pushCell cell).heap = T.heap.push cell := rfl
  have at' : (T.heap.push cell)[T.heap.size]? = some cell := by simp
  refine ⟨_, X', by rw [hp]; simp, by rw [hp]; exact ext_push _ _, ?_, fun {O nm d ty} L ht => ?_, st⟩
  · rw [hp]; exact ⟨cell, kZ, at', by rw [hcell]; exact h1, by rw [hcell]; exact z1, by rw [hcell]; rfl, fun _ => by rw [hcell]; simp [ek]⟩
  · rw [hp]
    obtain ⟨c1, k1, cf, kf, i, f, a1, a2, a3, a4, a5, a6, -⟩ := L.spec
    cases h1.symm.trans a1
    cases z1.symm.trans a2
    refine ⟨cell, cf, kf, i, f, at', a3, a4, by rw [hcell]; simp, by rw [hcell]; rfl, by rw [hcell]; exact a5, ?_⟩
    rw [hcell]; simp [ek, a6, (State.fieldFound?_type a3 ht).2]
theorem newArr1 (X : Stand p l e R s m args below meth c T locs cells slots) (hx : p.tables.exec = Jvm.exec) (hZ : Z.Warmed39 s.vm) {aty : ArrayType} (w : (Jvm.Cond.arrayClass (newarray.typeOf aty)).before a0 Z = true) {g : JFrame} (hg : g.method = m) (hd : decode c.code g.pc = .ok (.newarray aty, 2)) {n : Int32} {rest : List Value} (hs : g.stack = .int n :: rest)
    (hn : ¬ n < 0) (hb : n.toNatClampNeg * 8 ≤ 536870912) (hc : cells + 1 ≤ R.cells) (hl : slots + n.toNatClampNeg ≤ R.slots) :
    ∃ T' cA, Stand p l e R s m args below meth c T' locs (cells + 1) (slots + n.toNatClampNeg) ∧ T'.heap.size = T.heap.size + 1 ∧ Ext T.heap T'.heap ∧ Arr Z T'.heap T.heap.size (newA cA (newarray.typeOf aty) n) (newarray.typeOf aty) ∧
      ∀ target, Steps p.tables e below (T'.setTop { g with pc := g.pc + 2, stack := .ref T.heap.size :: rest }) target → Steps p.tables e below (T.setTop g) target := by
  have hcb : componentBytes (newarray.typeOf aty) ≤ 8 := by cases aty <;> decide
  obtain ⟨cA, kA, comp, h1, h2, h3, X', st⟩ := X.newarrayPrim hx (mvA hZ w) hg hd hs hn (Nat.le_trans (Nat.mul_le_mul_left _ hcb) hb) hc hl
  rw [hZ.alike.findClass] at h1
  obtain ⟨kZ, z1, -⟩ := Vm.findClass_spec h1
  obtain ⟨k', z2, z3⟩ := hZ.alike.2.2 _ _ z1
  have ek : kA.kind = kZ.kind := by rw [Option.some.inj (h2.symm.trans z2), z3]
  have hp : (T.pushCell (newA cA (newarray.typeOf aty) n)).heap = T.heap.push (newA cA (newarray.typeOf aty) n) := rfl
  refine ⟨T.pushCell (newA cA (newarray.typeOf aty) n), cA, X', by rw [hp]; simp, by rw [hp]; exact ext_push _ _, ?_, st⟩
  rw [hp]
  exact ⟨by simp, ⟨by simp [newA], kZ, z1, comp, by rw [← ek]; exact h3⟩, by simp [newA]⟩
end Made
section Heap
variable {C : Ctx} {M : Bdy} {k n pc q : Nat} {P P' : Pat} {S S' : List Value} {G : AH} {Q : Option Value → AH → Prop} {top : Nat} {a : Nat} {qq j idx : Nat} {ob : Rec} {H : List (Nat × Nat × Rec)} {nm ds : String}
theorem Runs.getI (d : DAt M pc (.getfield idx) 3 q) (w : Jvm.Cond.fieldLink M.1.cls idx K.1 nm ds ∈ tables_1) (hk : K.2.1[j]? = some (nm, ds)) (h : Runs C M k n q P (.int (gI ob j) :: S) (top, (a, qq, ob) :: H) Q) : Runs C M k n pc P (.ref a :: S) (top, (a, qq, ob) :: H) Q := by
  intro hw p e s m args below meth c T locs L hx hby hml hret hnm hown hZ hf hsz X hR hF
  have hq := d.2
  subst hq
  obtain ⟨T1, X1, e1, st1⟩ := getF X hx hZ hown (host := "") (Or.inl (hw _ w)) Via.refl rfl (hR.objs.2.2.2.1 j _ hk) (g := mkF m pc L (.ref a :: S)) rfl rfl (hb hby d.1)
  obtain ⟨T', locs', k', n', r, G', g1, g2, g3, g4, g5, g6, g7, g8⟩ := h hw p e s m args below meth c T1 locs L hx hby hml hret hnm hown hZ hf hsz X1 (by rw [e1]; exact hR) hF
  exact ⟨T', locs', k', n', r, G', g1, g2, g3, g4, g5, g6, g7, fun fs hr => st1 _ (g8 fs hr)⟩
theorem Runs.getA {ty : FieldType} {len : Int32} (d : DAt M pc (.getfield idx) 3 q) (hk : K.2.2[j]? = some (nm, ty, len)) (w : Jvm.Cond.fieldLink M.1.cls idx K.1 nm (aD ty) ∈ tables_1) (hq : j < qq) (h : Runs C M k n q P (.ref (a + 1 + j) :: S) (top, (a, qq, ob) :: H) Q) : Runs C M k n pc P (.ref a :: S) (top, (a, qq, ob) :: H) Q := by
  intro hw p e s m args below meth c T locs L hx hby hml hret hnm hown hZ hf hsz X hR hF
  have hqq := d.2
  subst hqq
  obtain ⟨T1, X1, e1, st1⟩ := getF X hx hZ hown (host := "") (Or.inl (hw _ w)) Via.refl rfl (hR.objs.2.2.2.2.1 j _ hk hq).1 (g := mkF m pc L (.ref a :: S)) rfl rfl (hb hby d.1)
  obtain ⟨T', locs', k', n', r, G', g1, g2, g3, g4, g5, g6, g7, g8⟩ := h hw p e s m args below meth c T1 locs L hx hby hml hret hnm hown hZ hf hsz X1 (by rw [e1]; exact hR) hF
  exact ⟨T', locs', k', n', r, G', g1, g2, g3, g4, g5, g6, g7, fun fs hr => st1 _ (g8 fs hr)⟩
theorem lw_of {Z : State} {a0 : Array Value} {meth : Method} (hw : ∀ d ∈ tables_1, d.before a0 Z = true) {C O n d own : String} (h : Jvm.Cond.lays C O n d ∈ tables_1 ∨ Jvm.Cond.laysFinal C O n d ∈ tables_1) (hc : Jvm.Cond.lays C O n d ∈ tables_1 ∨ (own = O ∧ meth.name = "<init>")) : (Jvm.Cond.lays C O n d).before a0 Z = true ∨ ((Jvm.Cond.laysFinal C O n d).before a0 Z = true ∧ own = O ∧ meth.name = "<init>") := by
  rcases hc with hc | hc
  · exact Or.inl (hw _ hc)
  · exact h.imp (hw _) (fun u => ⟨hw _ u, hc⟩)
/-- a field that may be written here: not final, or in a constructor of its class -/
def Mine (M : Bdy) (nm ds : String) : Prop := Jvm.Cond.lays K.1 K.1 nm ds ∈ tables_1 ∨ (M.1.cls = K.1 ∧ M.1.name = "<init>")
theorem Runs.putI {x : Int32} (d : DAt M pc (.putfield idx) 3 q) (w : Jvm.Cond.fieldLink M.1.cls idx K.1 nm "I" ∈ tables_1) (hk : K.2.1[j]? = some (nm, "I")) (hm : Mine M nm "I") (h : Runs C M k n q P S (top, (a, qq, sI ob j x) :: H) Q) : Runs C M k n pc P (.int x :: .ref a :: S) (top, (a, qq, ob) :: H) Q := by
  intro hw p e s m args below meth c T locs L hx hby hml hret hnm hown hZ hf hsz X hR hF
  have hqq := d.2
  subst hqq
  obtain ⟨T1, h1, X1, e1, W1, st1⟩ := putF X hx hZ hown (host := "") (Or.inl (hw _ w)) Via.refl rfl (hR.objs.2.2.2.1 j _ hk) hR.objs.2.2.1 (lw_of hw ((All.mem kS (List.mem_of_getElem? hk)).1) (hm.imp id (fun u => ⟨u.1, hnm.trans u.2⟩))) (hw _ kI) (ty := .int) (by decide) rfl rfl (g := mkF m pc L (.int x :: .ref a :: S)) rfl rfl (hb hby d.1)
  obtain ⟨T', locs', k', n', r, G', g1, g2, g3, g4, g5, g6, g7, g8⟩ := h hw p e s m args below meth c T1 _ L hx hby hml hret hnm hown hZ hf hsz X1 (by rw [e1]; exact hR.putI hw hk W1) (Fr.snoc X1 hF hR.objs.1)
  exact ⟨T', locs', k', n', r, G', g1, g2, g3, g4, g5, g6, g7, fun fs hr => st1 _ (g8 fs hr)⟩
theorem Runs.putZ {x y : Int32} (d : DAt M pc (.putfield idx) 3 q) (w : Jvm.Cond.fieldLink M.1.cls idx K.1 nm "Z" ∈ tables_1) (hk : K.2.1[j]? = some (nm, "Z")) (hm : Mine M nm "Z") (hy : nar .boolean x = y) (h : Runs C M k n q P S (top, (a, qq, sI ob j y) :: H) Q) : Runs C M k n pc P (.int x :: .ref a :: S) (top, (a, qq, ob) :: H) Q := by
  subst hy
  intro hw p e s m args below meth c T locs L hx hby hml hret hnm hown hZ hf hsz X hR hF
  have hqq := d.2
  subst hqq
  obtain ⟨T1, h1, X1, e1, W1, st1⟩ := putFN X hx hZ hown (hw _ w) Via.refl rfl (hR.objs.2.2.2.1 j _ hk) hR.objs.2.2.1 (lw_of hw ((All.mem kS (List.mem_of_getElem? hk)).1) (hm.imp id (fun u => ⟨u.1, hnm.trans u.2⟩))) (hw _ kI) (ty := .boolean) (v' := .int (nar .boolean x)) (by decide) rfl (fits_nar_bool _) (g := mkF m pc L (.int x :: .ref a :: S)) rfl rfl (hb hby d.1)
  obtain ⟨T', locs', k', n', r, G', g1, g2, g3, g4, g5, g6, g7, g8⟩ := h hw p e s m args below meth c T1 _ L hx hby hml hret hnm hown hZ hf hsz X1 (by rw [e1]; exact hR.putI hw hk W1) (Fr.snoc X1 hF hR.objs.1)
  exact ⟨T', locs', k', n', r, G', g1, g2, g3, g4, g5, g6, g7, fun fs hr => st1 _ (g8 fs hr)⟩
theorem Runs.ialoadA {i len : Int32} (d : DAt M pc .iaload 1 q) (hk : K.2.2[j]? = some (nm, .int, len)) (hq : j < qq) (hi : ¬ i < 0 ∧ i < len) (h : Runs C M k n q P (.int (gA ob j i) :: S) (top, (a, qq, ob) :: H) Q) : Runs C M k n pc P (.int i :: .ref (a + 1 + j) :: S) (top, (a, qq, ob) :: H) Q := by
  have hqq := d.2
  subst hqq
  refine Runs.pure d (fun p e s m args below meth c T locs L hw hx hown hZ hd hP hsz hR X => ⟨L, hP, hsz, fun t r => ?_⟩) h
  obtain ⟨cl, A, Sz, V⟩ := (hR.objs.2.2.2.2.1 j _ hk hq).2
  exact X.iaload hx (j := i) (v := .int (gA ob j i)) A.1 (State.isArrayOf_alike hZ.alike A.2.1) A.2.2 (inb_of Sz hi) (V i hi.1 hi.2) (g := mkF m pc L (.int i :: .ref (a + 1 + j) :: S)) rfl rfl hd _ r
theorem Runs.baloadA {i len : Int32} (d : DAt M pc .baload 1 q) (hk : K.2.2[j]? = some (nm, .boolean, len)) (hq : j < qq) (hi : ¬ i < 0 ∧ i < len) (h : Runs C M k n q P (.int (gA ob j i) :: S) (top, (a, qq, ob) :: H) Q) : Runs C M k n pc P (.int i :: .ref (a + 1 + j) :: S) (top, (a, qq, ob) :: H) Q := by
  have hqq := d.2
  subst hqq
  refine Runs.pure d (fun p e s m args below meth c T locs L hw hx hown hZ hd hP hsz hR X => ⟨L, hP, hsz, fun t r => ?_⟩) h
  obtain ⟨cl, A, Sz, V⟩ := (hR.objs.2.2.2.2.1 j _ hk hq).2
  exact X.baloadBooleans hx (j := i) (v := .int (gA ob j i)) A.1 (State.isArrayOf_alike hZ.alike A.2.1) A.2.2 (inb_of Sz hi) (V i hi.1 hi.2) (g := mkF m pc L (.int i :: .ref (a + 1 + j) :: S)) rfl rfl hd _ r
theorem Runs.laloadA {i len : Int32} (d : DAt M pc .laload 1 q) (hk : K.2.2[j]? = some (nm, .long, len)) (hq : j < qq) (hi : ¬ i < 0 ∧ i < len) (h : Runs C M k n q P (.long (gJ ob j i) :: S) (top, (a, qq, ob) :: H) Q) : Runs C M k n pc P (.int i :: .ref (a + 1 + j) :: S) (top, (a, qq, ob) :: H) Q := by
  have hqq := d.2
  subst hqq
  refine Runs.pure d (fun p e s m args below meth c T locs L hw hx hown hZ hd hP hsz hR X => ⟨L, hP, hsz, fun t r => ?_⟩) h
  obtain ⟨cl, A, Sz, V⟩ := (hR.objs.2.2.2.2.1 j _ hk hq).2
  exact X.laload hx (j := i) (v := .long (gJ ob j i)) A.1 (State.isArrayOf_alike hZ.alike A.2.1) A.2.2 (inb_of Sz hi) (V i hi.1 hi.2) (g := mkF m pc L (.int i :: .ref (a + 1 + j) :: S)) rfl rfl hd _ r
theorem Runs.iastoreA {i x len : Int32} (d : DAt M pc .iastore 1 q) (hk : K.2.2[j]? = some (nm, .int, len)) (hq : j < qq) (hi : ¬ i < 0 ∧ i < len) (h : Runs C M k n q P S (top, (a, qq, sA ob j i x) :: H) Q) : Runs C M k n pc P (.int x :: .int i :: .ref (a + 1 + j) :: S) (top, (a, qq, ob) :: H) Q := by
  intro hw p e s m args below meth c T locs L hx hby hml hret hnm hown hZ hf hsz X hR hF
  have hqq := d.2
  subst hqq
  obtain ⟨cl, A, Sz, V⟩ := (hR.objs.2.2.2.2.1 j _ hk hq).2
  obtain ⟨T1, h1, X1, e1, W1, st1⟩ := stI X hx hZ rfl A (j := i) (x := x) (inb_of Sz hi) (g := mkF m pc L (.int x :: .int i :: .ref (a + 1 + j) :: S)) rfl rfl (hb hby d.1)
  obtain ⟨T', locs', k', n', r, G', g1, g2, g3, g4, g5, g6, g7, g8⟩ := h hw p e s m args below meth c T1 _ L hx hby hml hret hnm hown hZ hf hsz X1 (by rw [e1]; exact hR.putA hk hq (by simp) hi W1) (Fr.snoc X1 hF (by have := hR.objs.1; omega))
  exact ⟨T', locs', k', n', r, G', g1, g2, g3, g4, g5, g6, g7, fun fs hr => st1 _ (g8 fs hr)⟩
theorem Runs.bastoreA {i x len : Int32} (d : DAt M pc .bastore 1 q) (hk : K.2.2[j]? = some (nm, .boolean, len)) (hq : j < qq) (hi : ¬ i < 0 ∧ i < len) {y : Int32} (hy : nar .boolean x = y) (h : Runs C M k n q P S (top, (a, qq, sA ob j i y) :: H) Q) : Runs C M k n pc P (.int x :: .int i :: .ref (a + 1 + j) :: S) (top, (a, qq, ob) :: H) Q := by
  subst hy
  intro hw p e s m args below meth c T locs L hx hby hml hret hnm hown hZ hf hsz X hR hF
  have hqq := d.2
  subst hqq
  obtain ⟨cl, A, Sz, V⟩ := (hR.objs.2.2.2.2.1 j _ hk hq).2
  obtain ⟨T1, h1, X1, e1, W1, st1⟩ := stZ X hx hZ rfl A (j := i) (x := x) (inb_of Sz hi) (g := mkF m pc L (.int x :: .int i :: .ref (a + 1 + j) :: S)) rfl rfl (hb hby d.1)
  obtain ⟨T', locs', k', n', r, G', g1, g2, g3, g4, g5, g6, g7, g8⟩ := h hw p e s m args below meth c T1 _ L hx hby hml hret hnm hown hZ hf hsz X1 (by rw [e1]; exact hR.putA hk hq (by simp) hi W1) (Fr.snoc X1 hF (by have := hR.objs.1; omega))
  exact ⟨T', locs', k', n', r, G', g1, g2, g3, g4, g5, g6, g7, fun fs hr => st1 _ (g8 fs hr)⟩
theorem Runs.lastoreA {i len : Int32} {x : Int64} (d : DAt M pc .lastore 1 q) (hk : K.2.2[j]? = some (nm, .long, len)) (hq : j < qq) (hi : ¬ i < 0 ∧ i < len) (h : Runs C M k n q P S (top, (a, qq, sJ ob j i x) :: H) Q) : Runs C M k n pc P (.long x :: .int i :: .ref (a + 1 + j) :: S) (top, (a, qq, ob) :: H) Q := by
  intro hw p e s m args below meth c T locs L hx hby hml hret hnm hown hZ hf hsz X hR hF
  have hqq := d.2
  subst hqq
  obtain ⟨cl, A, Sz, V⟩ := (hR.objs.2.2.2.2.1 j _ hk hq).2
  obtain ⟨T1, h1, X1, e1, W1, st1⟩ := stJ X hx hZ rfl A (j := i) (x := x) (inb_of Sz hi) (g := mkF m pc L (.long x :: .int i :: .ref (a + 1 + j) :: S)) rfl rfl (hb hby d.1)
  obtain ⟨T', locs', k', n', r, G', g1, g2, g3, g4, g5, g6, g7, g8⟩ := h hw p e s m args below meth c T1 _ L hx hby hml hret hnm hown hZ hf hsz X1 (by rw [e1]; exact hR.putJ hk hq rfl hi W1) (Fr.snoc X1 hF (by have := hR.objs.1; omega))
  exact ⟨T', locs', k', n', r, G', g1, g2, g3, g4, g5, g6, g7, fun fs hr => st1 _ (g8 fs hr)⟩
/-- the script: an array that stood before the law began -/
def ScrF (C : Ctx) (sa : Nat) (z : Int32) (f : Int32 → Int32) : Prop := ∃ cl : Cell, Scr C.2.1 C.2.1.heap sa cl z ∧ f = atv cl
theorem Runs.lenS {sa : Nat} {z : Int32} {f : Int32 → Int32} (hs : ScrF C sa z f) (d : DAt M pc .arraylength 1 q) (h : Runs C M k n q P (.int z :: S) G Q) : Runs C M k n pc P (.ref sa :: S) G Q := by
  have hqq := d.2
  subst hqq
  refine Runs.pure d (fun p e s m args below meth c T locs L hw hx hown hZ hd hP hsz hR X => ⟨L, hP, hsz, fun t r => ?_⟩) h
  obtain ⟨cl, F, -⟩ := hs
  obtain ⟨A, Sz, N, V⟩ := F.ext hR.2.1.2
  exact X.arraylength hx A.1 (State.isArrayOf_alike hZ.alike A.2.1) (g := mkF m pc L (.ref sa :: S)) rfl rfl hd _ (by rw [len_of Sz N]; exact r)
theorem Runs.ialoadS {sa : Nat} {z i : Int32} {f : Int32 → Int32} (hs : ScrF C sa z f) (d : DAt M pc .iaload 1 q) (hi : ¬ i < 0 ∧ i < z) (h : Runs C M k n q P (.int (f i) :: S) G Q) : Runs C M k n pc P (.int i :: .ref sa :: S) G Q := by
  have hqq := d.2
  subst hqq
  refine Runs.pure d (fun p e s m args below meth c T locs L hw hx hown hZ hd hP hsz hR X => ⟨L, hP, hsz, fun t r => ?_⟩) h
  obtain ⟨cl, F, rfl⟩ := hs
  obtain ⟨A, Sz, N, V⟩ := F.ext hR.2.1.2
  exact X.iaload hx (j := i) (v := .int (atv cl i)) A.1 (State.isArrayOf_alike hZ.alike A.2.1) A.2.2 (inb_of Sz hi) (V i (inb_of Sz hi)) (g := mkF m pc L (.int i :: .ref sa :: S)) rfl rfl hd _ r
/- leaving -/
theorem Runs.retI {v : Int32} (d : DAt M pc .ireturn 1 q) (hret : M.2.2.2.1 = some .int) (hk : k ≤ M.2.2.2.2.cells ∧ n ≤ M.2.2.2.2.slots) (hQ : Q (some (.int v)) G) : Runs C M k n pc P (.int v :: S) G Q := by
  intro hw p e s m args below meth c T locs L hx hby hml hr0 hnm hown hZ hf hsz X hR hF
  exact ⟨T, locs, k, n, _, G, X, hk.1, hk.2, hR, hF, hQ, (fun u => by rw [hret] at u; cases u), fun fs hr => Jvm.RoadKit.retI X hx (hr0.trans hret) (hb hby d.1) hr⟩
theorem Runs.retZ {v : Int32} (d : DAt M pc .ireturn 1 q) (hret : M.2.2.2.1 = some .boolean) (hk : k ≤ M.2.2.2.2.cells ∧ n ≤ M.2.2.2.2.slots) {y : Int32} (hy : nar .boolean v = y) (hQ : Q (some (.int y)) G) : Runs C M k n pc P (.int v :: S) G Q := by
  subst hy
  intro hw p e s m args below meth c T locs L hx hby hml hr0 hnm hown hZ hf hsz X hR hF
  exact ⟨T, locs, k, n, _, G, X, hk.1, hk.2, hR, hF, hQ, (fun u => by rw [hret] at u; cases u), fun fs hr => retN X hx (t := .boolean) (hr0.trans hret) (by simp) (hb hby d.1) hr⟩
theorem Runs.retJ {v : Int64} (d : DAt M pc .lreturn 1 q) (hret : M.2.2.2.1 = some .long) (hk : k ≤ M.2.2.2.2.cells ∧ n ≤ M.2.2.2.2.slots) (hQ : Q (some (.long v)) G) : Runs C M k n pc P (.long v :: []) G Q := by
  intro hw p e s m args below meth c T locs L hx hby hml hr0 hnm hown hZ hf hsz X hR hF
  exact ⟨T, locs, k, n, _, G, X, hk.1, hk.2, hR, hF, hQ, (fun u => by rw [hret] at u; cases u), fun fs hr => X.lreturnOut hx (hr0.trans hret) (hb hby d.1) hr⟩
theorem Runs.retV (d : DAt M pc .return_ 1 q) (hret : M.2.2.2.1 = none) (hk : k ≤ M.2.2.2.2.cells ∧ n ≤ M.2.2.2.2.slots) (hQ : Q none G) : Runs C M k n pc P [] G Q := by
  intro hw p e s m args below meth c T locs L hx hby hml hr0 hnm hown hZ hf hsz X hR hF
  exact ⟨T, locs, k, n, _, G, X, hk.1, hk.2, hR, hF, hQ, (fun _ => rfl), fun fs hr => X.returnOut hx (hr0.trans hret) (hb hby d.1) hr⟩
/- a new object, and the arrays that its constructor makes -/
theorem Runs.newK (d : DAt M pc (.new idx) 3 q) (w : Jvm.Cond.classLink M.1.cls idx K.1 ∈ tables_1) (hc : k + 1 ≤ M.2.2.2.2.cells ∧ n + kN ≤ M.2.2.2.2.slots) {k' n' : Nat} (hk' : k + 1 = k') (hn' : n + kN = n') {H : List (Nat × Nat × Rec)} (hd : ∀ x ∈ H, x.1 + x.2.1 < top) (h : Runs C M k' n' q P (.ref top :: S) (top + 1, (top, 0, zrec) :: H) Q) : Runs C M k n pc P S (top, H) Q := by
  subst hk' hn'
  intro hw p e s m args below meth c T locs L hx hby hml hr0 hnm hown hZ hf hsz X hR hF
  have hqq := d.2
  subst hqq
  obtain ⟨T2, X2, s2, E2, A2, D2, st2⟩ := new1 X hx hZ hown (hw _ w) (hw _ kI) (hw _ kZ) (g := mkF m pc L S) rfl (hb hby d.1) hc.1 hc.2
  have hs : T.heap.size = top := hR.1
  rw [hs] at A2 D2 st2 s2
  have hR2 : Rep C.2.1 C.2.2.1 T2.heap (top + 1, (top, 0, zrec) :: H) := by
    refine ⟨s2, hR.2.1.ext E2, fun x hx' => ?_, ?_⟩
    · rcases List.mem_cons.mp hx' with rfl | hx'
      · refine ⟨?_, by simp, A2, fun k nd hk => ?_, fun k t hk hq => by simp at hq, fun k t hk hq => ?_⟩
        · have := hR.2.1.2.1; rw [hR.2.1.1] at this; simp only; omega
        · rcases (All.mem kS (List.mem_of_getElem? hk)).2 with e | e
          · have := D2 (laidS hw hk) (ty := .int) (by rw [e]; decide); exact this
          · have := D2 (laidS hw hk) (ty := .boolean) (by rw [e]; decide); exact this
        · have := D2 (laidA hw hk) (pfA hk); exact this
      · obtain ⟨p1, p2, p3⟩ := hR.2.2.1 x hx'
        exact ⟨p1, by simp only at p2 ⊢; omega, p3.ext E2⟩
    · exact List.pairwise_cons.mpr ⟨fun y hy => Or.inr (hd y hy), hR.2.2.2⟩
  obtain ⟨T', locs', k', n', r, G', g1, g2, g3, g4, g5, g6, g7, g8⟩ := h hw p e s m args below meth c T2 _ L hx hby hml hr0 hnm hown hZ hf hsz X2 hR2 hF
  exact ⟨T', locs', k', n', r, G', g1, g2, g3, g4, g5, g6, g7, fun fs hr => st2 _ (g8 fs hr)⟩
/-- newarray and the putfield behind it: the next array of an object that is being made -/
theorem Runs.newArr {aty : ArrayType} {ty : FieldType} {len : Int32} {q1 : Nat} (d : DAt M pc (.newarray aty) 2 q1) (d' : DAt M q1 (.putfield idx) 3 q) (hk : K.2.2[j]? = some (nm, ty, len)) (w : Jvm.Cond.fieldLink M.1.cls idx K.1 nm (aD ty) ∈ tables_1) (ht : newarray.typeOf aty = ty) (wa : Jvm.Cond.arrayClass ty ∈ tables_1) (hm : Mine M nm (aD ty))
    (htop : top = a + 1 + j) (hlen : ¬ len < 0 ∧ len.toNatClampNeg * 8 ≤ 536870912) (hc : k + 1 ≤ M.2.2.2.2.cells ∧ n + len.toNatClampNeg ≤ M.2.2.2.2.slots) (hz : (∀ i, ob.2.1 j i = 0) ∧ (∀ i, ob.2.2 j i = 0)) {j' top' k' n' : Nat} (hj' : j + 1 = j') (ht' : top + 1 = top') (hk' : k + 1 = k') (hn' : n + len.toNatClampNeg = n')
    (h : Runs C M k' n' q P S (top', (a, j', ob) :: H) Q) : Runs C M k n pc P (.int len :: .ref a :: S) (top, (a, j, ob) :: H) Q := by
  subst hj' ht' hk' hn'
  intro hw p e s m args below meth c T locs L hx hby hml hr0 hnm hown hZ hf hsz X hR hF
  have hqq := d.2
  have hqq' := d'.2
  subst hqq hqq' ht
  obtain ⟨T1, cA, X1, s1, E1, A1, st1⟩ := newArr1 X hx hZ (hw _ wa) (g := mkF m pc L (.int len :: .ref a :: S)) rfl (hb hby d.1) rfl hlen.1 hlen.2 hc.1 hc.2
  have hs : T.heap.size = top := hR.1
  rw [hs] at A1 st1 s1
  have O1 := hR.objs.2.2.ext E1
  obtain ⟨T2, h2, X2, e2, W2, st2⟩ := putF X1 hx hZ hown (host := "") (Or.inl (hw _ w)) Via.refl rfl (O1.2.2.2 j _ hk (Nat.le_refl _)) O1.1 (lw_of hw ((All.mem kA (List.mem_of_getElem? hk)).1) (hm.imp id (fun u => ⟨u.1, hnm.trans u.2⟩))) (hw _ kI) (ty := .array (newarray.typeOf aty)) (pfA hk) rfl rfl (g := mkF m (pc + 2) L (.ref top :: .ref a :: S)) rfl rfl (hb hby d'.1)
  have hts : (newarray.typeOf aty = .int ∨ newarray.typeOf aty = .boolean ∨ newarray.typeOf aty = .long) := (All.mem kA (List.mem_of_getElem? hk)).2.1
  have hA := arr_new A1 hts hz
  have hR2 : Rep C.2.1 C.2.2.1 T2.heap (top + 1, (a, j + 1, ob) :: H) := by rw [e2]; exact hR.addA hw E1 s1 htop hk hA W2
  obtain ⟨T', locs', k', n', r, G', g1, g2, g3, g4, g5, g6, g7, g8⟩ := h hw p e s m args below meth c T2 _ L hx hby hml hr0 hnm hown hZ hf hsz X2 hR2 (Fr.snoc X2 hF hR.objs.1)
  exact ⟨T', locs', k', n', r, G', g1, g2, g3, g4, g5, g6, g7, fun fs hr => st1 _ (st2 _ (g8 fs hr))⟩
theorem Runs.initO {W : Nat} (d : DAt M pc (.invokespecial idx) 3 q) (w1 : Jvm.Cond.methodLink M.1.cls idx Lib.objectInit ∈ tables_1) (w2 : Jvm.Cond.instanceMethod Lib.objectInit ∈ tables_1) (w3 : Jvm.Cond.code Lib.objectInit ⟨#[0xb1]⟩ 1 none ∈ tables_1) (hW : (S.map fun v => v.category).sum = W) (hc : 1 ≤ M.2.2.2.2.frames ∧ W + 12 ≤ M.2.2.2.2.locals) (h : Runs C M k n q P S G Q) : Runs C M k n pc P (.ref a :: S) G Q := by
  intro hw p e s m args below meth c T locs L hx hby hml hr0 hnm hown hZ hf hsz X hR hF
  have hqq := d.2
  subst hqq
  obtain ⟨T1, X1, e1, st1⟩ := Jvm.RoadKit.initO X hx hZ hown (hw _ w1) (hw _ w2) (hw _ w3) rfl (g := mkF m pc L (.ref a :: S)) rfl (by rw [hml]; exact hsz) rfl (hb hby d.1) hc.1 (W := W) (by show 2 * 0 + _ ≤ _; omega) hc.2
  obtain ⟨T', locs', k', n', r, G', g1, g2, g3, g4, g5, g6, g7, g8⟩ := h hw p e s m args below meth c T1 _ L hx hby hml hr0 hnm hown hZ hf hsz X1 (by rw [e1]; exact hR) hF
  exact ⟨T', locs', k', n', r, G', g1, g2, g3, g4, g5, g6, g7, fun fs hr => st1 _ (g8 fs hr)⟩
end Heap
/- a body's contract, and the calls that are paid by one -/
def Pays (C : Ctx) (N : Bdy) (as : List Value) (G : AH) (Q : Option Value → AH → Prop) : Prop :=
  Ok C → ∀ h0 : Heap, Rep C.2.1 C.2.2.1 h0 G → ∀ ws : List Jvm.Cond, MetFree C.1 N.1 (head1 (Jvm.Cond.code N.1 N.2.1 N.2.2.1 N.2.2.2.1 :: ws) N.2.2.2.2) (fun a U => a = as.toArray ∧ C.2.1.Warmed39 U.vm ∧ U.heap = h0) (fun _ _ _ _ _ => True)
    (fun _ U o U' => ∃ v L, o = .returned v ∧ (Fr C.2.2.1 L ∧ ∃ G', Rep C.2.1 C.2.2.1 U'.heap G' ∧ Q v G') ∧ FrameEnd U o U' L N.2.2.2.2.cells N.2.2.2.2.slots)
def lay : List Value → List Slot
  | [] => []
  | v :: l => if v.category = 2 then .val v :: .second :: lay l else .val v :: lay l
theorem lay_foldl (l : List Value) : ∀ acc : Array Slot, (l.foldl (fun acc v => if v.category = 2 then (acc.push (.val v)).push .second else acc.push (.val v)) acc).toList = acc.toList ++ lay l := by
  induction l with
  | nil => intro acc; simp [lay]
  | cons v l ih =>
    intro acc
    rw [List.foldl_cons, ih]
    by_cases h : v.category = 2 <;> simp [lay, h]
theorem args_lay (as : List Value) (ml : Nat) : argsToLocals as.toArray ml = (lay as ++ List.replicate (ml - (lay as).length) Slot.unset).toArray := by
  have h := lay_foldl as #[]
  apply Array.ext'
  simp only [argsToLocals, Array.toList_append, List.toList_toArray] at *
  rw [show (as.toArray.foldl (init := #[]) fun acc v => if v.category = 2 then (acc.push (Slot.val v)).push .second else acc.push (.val v)).toList = lay as by simpa using h]
  congr 1
  rw [← Array.length_toList, show (as.toArray.foldl (init := #[]) fun acc v => if v.category = 2 then (acc.push (Slot.val v)).push .second else acc.push (.val v)).toList = lay as by simpa using h]
  simp
def WFL (l : List Slot) : Prop := (∀ i : Nat, l[i]? = some .second → ∃ (j : Nat) (v : Value), i = j + 1 ∧ l[j]? = some (.val v) ∧ v.category = 2) ∧ (∀ (i : Nat) (v : Value), l[i]? = some (.val v) → v.category = 2 → l[i + 1]? = some .second)
theorem WFL.unset (n : Nat) : WFL (List.replicate n Slot.unset) := by
  refine ⟨fun i h => ?_, fun i v h => ?_⟩ <;> (rw [List.getElem?_replicate] at h; split at h <;> cases h)
theorem WFL.one {l : List Slot} {v : Value} (h : WFL l) (hv : v.category ≠ 2) : WFL (.val v :: l) := by
  refine ⟨fun i hi => ?_, fun i w hi hw => ?_⟩
  · cases i with
    | zero => simp at hi
    | succ i =>
      obtain ⟨j, w, e1, e2, e3⟩ := h.1 i (by simpa using hi)
      exact ⟨j + 1, w, by omega, by simpa using e2, e3⟩
  · cases i with
    | zero => simp at hi; subst hi; exact absurd hw hv
    | succ i => have := h.2 i w (by simpa using hi) hw; simpa using this
theorem WFL.two {l : List Slot} {v : Value} (h : WFL l) (hv : v.category = 2) : WFL (.val v :: .second :: l) := by
  refine ⟨fun i hi => ?_, fun i w hi hw => ?_⟩
  · match i, hi with
    | 0, hi => simp at hi
    | 1, hi => exact ⟨0, v, rfl, by simp, hv⟩
    | i + 2, hi =>
      obtain ⟨j, w, e1, e2, e3⟩ := h.1 i (by simpa using hi)
      exact ⟨j + 2, w, by omega, by simpa using e2, e3⟩
  · match i, hi with
    | 0, hi => simp
    | 1, hi => simp at hi
    | i + 2, hi => have := h.2 i w (by simpa using hi) hw; simpa using this
theorem WFL.lay (as : List Value) (n : Nat) : WFL (lay as ++ List.replicate n Slot.unset) := by
  induction as with
  | nil => exact WFL.unset n
  | cons v l ih =>
    by_cases h : v.category = 2
    · simpa [Jvm.Pilot.@@N@@.lay, h] using ih.two h
    · simpa [Jvm.Pilot.@@N@@.lay, h] using ih.one h
def pforget : List Bool → Pat → Pat
  | [], _ => []
  | _, [] => []
  | true :: ms, x :: l => x :: pforget ms l
  | false :: ms, _ :: l => none :: pforget ms l
theorem pforget_get : ∀ (ms : List Bool) (P : Pat) (i : Nat) (s : Slot), pget (pforget ms P) i = some s → pget P i = some s
  | [], _, i, s, h => by simp [pforget, pget] at h
  | _ :: _, [], i, s, h => by simp [pforget, pget] at h
  | true :: ms, x :: l, 0, s, h => h
  | true :: ms, x :: l, i + 1, s, h => pforget_get ms l i s h
  | false :: ms, x :: l, 0, s, h => by simp [pforget, pget] at h
  | false :: ms, x :: l, i + 1, s, h => pforget_get ms l i s h
section Calls
variable {C : Ctx} {M N : Bdy} {k n pc q : Nat} {P P' : Pat} {S S' : List Value} {G G1 : AH} {Q : Option Value → AH → Prop} {top : Nat} {a : Nat} {qq j idx W : Nat} {ob : Rec} {H : List (Nat × Nat × Rec)} {as : List Value}
theorem Runs.forget (ms : List Bool) (hP : pforget ms P = P') (h : Runs C M k n pc P' S G Q) : Runs C M k n pc P S G Q := by
  intro hw p e s m args below meth c T locs L hx hby hml hret hnm hown hZ hf
  subst hP
  exact h hw p e s m args below meth c T locs L hx hby hml hret hnm hown hZ ⟨fun i s hi => hf.1 i s (pforget_get _ _ i s hi), hf.2⟩
theorem Pays.of (hpl : plainName N.1.cls = true) (hml : (lay as).length ≤ N.2.2.1) (x : Nat) (hP : (lay as).map some ++ List.replicate x none = P) (h : Runs C N 0 0 0 P [] G Q) : Pays C N as G Q := by
  intro hw h0 hR ws
  refine MetFree.of_bodySF (plainFor_of_name hpl) hisR ?_
  intro p e s m args below meth c s₁ Bd hml0 hp hK
  obtain ⟨rfl, hZ, hh⟩ := hp
  have X0 : Stand p C.1 e N.2.2.2.2 s m as.toArray below meth c s₁ [] 0 0 := Stand.of_body Bd
  have e0 : s₁.heap = h0 := by rw [← hh, Bd.state]; rfl
  obtain ⟨L, hL⟩ : ∃ L : Array Slot, L = (lay as ++ List.replicate (N.2.2.1 - (lay as).length) Slot.unset).toArray := ⟨_, rfl⟩
  have hfit : Fits P L := by
    subst hP hL
    refine ⟨fun i s hi => ?_, ?_⟩
    · rw [pget_eq] at hi
      cases hq : (lay as)[i]? with
      | none =>
        rw [List.getElem?_append_right (by simpa using hq), List.getElem?_replicate] at hi
        split at hi <;> simp at hi
      | some y =>
        have hlt := (List.getElem?_eq_some_iff.mp hq).1
        rw [List.getElem?_append_left (by simpa using hlt), List.getElem?_map, hq] at hi
        have this : y = s := by simpa using hi
        simp only [List.getElem?_toArray]
        rw [List.getElem?_append_left hlt, hq, this]
    · have := WFL.lay as (N.2.2.1 - (lay as).length)
      refine ⟨fun i hi => ?_, fun i v hi hv => ?_⟩
      · rw [List.getElem?_toArray] at hi
        obtain ⟨j, v, e1, e2, e3⟩ := this.1 i hi
        exact ⟨j, v, e1, by rw [List.getElem?_toArray]; exact e2, e3⟩
      · rw [List.getElem?_toArray] at hi ⊢
        exact this.2 i v hi hv
  obtain ⟨T', locs', k', n', r, G', g1, g2, g3, g4, g5, g6, g7, g8⟩ := h hw p e s m as.toArray below meth c s₁ [] L Bd.exec Bd.bytes hml0 Bd.returns (name_of_methodNamed Bd.named Bd.method).1 (findClass_of_methodNamed Bd.named) hZ hfit (by rw [hL]; simp; omega) X0 (by rw [e0]; exact hR) (Fr.nil _)
  obtain ⟨fs, hr, hrun, hended, hW, hsame⟩ := g1.leave (v := r) (fun u => g7 (by rw [← Bd.returns]; exact u))
  refine ⟨_, _, ?_, hrun, hended, _, _, rfl, ⟨g5, G', ?_, g6⟩, ⟨_, rfl⟩, hW, hsame.mono g2 g3⟩
  · have ef : entryFrame m as.toArray N.2.2.1 = mkF m 0 L [] := by
      rw [hL, ← args_lay]; rfl
    rw [ef]; exact g8 fs hr
  · exact g4
abbrev room_al (M N : Bdy) (W k n : Nat) : Prop := N.2.2.2.2.frames + 1 ≤ M.2.2.2.2.frames ∧ W + (N.2.2.1 + 11) + N.2.2.2.2.locals ≤ M.2.2.2.2.locals ∧ k + N.2.2.2.2.cells ≤ M.2.2.2.2.cells ∧ n + N.2.2.2.2.slots ≤ M.2.2.2.2.slots
abbrev room_ok (M N : Bdy) (W : Nat) : Prop := N.2.2.2.2.frames + 1 ≤ M.2.2.2.2.frames ∧ W + (N.2.2.1 + 11) + N.2.2.2.2.locals ≤ M.2.2.2.2.locals ∧ N.2.2.2.2.cells = 0 ∧ N.2.2.2.2.slots = 0
abbrev full_ok (M : Bdy) (k n : Nat) : Prop := k ≤ M.2.2.2.2.cells ∧ n ≤ M.2.2.2.2.slots
theorem room_ok.al (h : room_ok M N W) (f : full_ok M k n) : room_al M N W k n := ⟨h.1, h.2.1, by rw [h.2.2.1]; exact f.1, by rw [h.2.2.2]; exact f.2⟩
abbrev code_w (N : Bdy) : Prop := Jvm.Cond.code N.1 N.2.1 N.2.2.1 N.2.2.2.1 ∈ tables_1 ∧ Jvm.Cond.initialized N.1.cls ∈ tables_1 ∧ (N.1.cls ≠ "java/lang/invoke/MethodHandle" ∧ N.1.cls ≠ "java/lang/invoke/VarHandle")
def arity (N : Bdy) (na : Nat) : Prop := ∃ ps r, parseMethodDescriptor N.1.desc = some ⟨ps, r⟩ ∧ na = ps.length
theorem arity.len {na : Nat} (h : arity N na) (e : as.length = na) : ∀ sig, parseMethodDescriptor N.1.desc = some sig → as.length = sig.parameters.length := by
  obtain ⟨ps, r, h1, h2⟩ := h
  exact lenOf h1 (e.trans h2)
theorem after_call {v : Option Value} {p : Program} {e : Env} {s : State} {m : MethodId} {args : Array Value} {below : List Frame} {meth : Method} {c : Code} {T T0 : State} {locs : List Loc} {L : Array Slot} {QN : Option Value → AH → Prop} {Lc : List Loc}
    (hw : Ok C) (hx : p.tables.exec = Jvm.exec) (hby : c.code = M.2.1) (hml : c.maxLocals = M.2.2.1) (hret : meth.sig.returnType = M.2.2.2.1) (hnm : meth.name = M.1.name) (hown : s.vm.findClass M.1.cls = some m.cls) (hZ : C.2.1.Warmed39 s.vm) (hf : Fits P L) (hsz : L.size = M.2.2.1) (hF : Fr C.2.2.1 locs)
    (X : Stand p C.1 e M.2.2.2.2 s m args below meth c T (locs ++ Lc) (k + N.2.2.2.2.cells) (n + N.2.2.2.2.slots)) (hQ : Fr C.2.2.1 Lc ∧ ∃ G', Rep C.2.1 C.2.2.1 T.heap G' ∧ QN v G')
    (h : ∀ v G', QN v G' → Runs C M (k + N.2.2.2.2.cells) (n + N.2.2.2.2.slots) (pc + 3) P (v.toList ++ S') G' Q)
    (st : ∀ t, Steps p.tables e below (T.setTop (mkF m (pc + 3) L (v.toList ++ S'))) t → Steps p.tables e below (T0.setTop (mkF m pc L S)) t) :
    ∃ (T' : State) (locs' : List Loc) (k' n' : Nat) (r : Option Value) (G' : AH), Stand p C.1 e M.2.2.2.2 s m args below meth c T' locs' k' n' ∧ k' ≤ M.2.2.2.2.cells ∧ n' ≤ M.2.2.2.2.slots ∧ Rep C.2.1 C.2.2.1 T'.heap G' ∧ Fr C.2.2.1 locs' ∧ Q r G' ∧
      (M.2.2.2.1 = none → r = none) ∧
      ∀ fs : List Frame, (∀ (f : JFrame) (acts : List Action), f.method = m → f.locked = none → f.entered = [] → (doReturn e (T'.setTop f) acts r).1 = T'.setFrames fs) → Steps p.tables e below (T0.setTop (mkF m pc L S)) (T'.setFrames fs) := by
  obtain ⟨f1, G', f2, f3⟩ := hQ
  obtain ⟨T', locs', k', n', r, G'', g1, g2, g3, g4, g5, g6, g7, g8⟩ := h v G' f3 hw p e s m args below meth c T _ L hx hby hml hret hnm hown hZ hf hsz X f2 (Fr.app hF f1)
  exact ⟨T', locs', k', n', r, G'', g1, g2, g3, g4, g5, g6, g7, fun fs hr => st _ (g8 fs hr)⟩
theorem Runs.callS {QN : Option Value → AH → Prop} (d : DAt M pc (.invokestatic idx) 3 q) (wl : Jvm.Cond.methodLink M.1.cls idx N.1 ∈ tables_1) (wt : Jvm.Cond.static N.1 ∈ tables_1) (wc : code_w N) (ar : arity N as.length) (hr0 : room_ok M N W) (hfull : full_ok M k n) (hS : S = as.reverse ++ S') (hW : (S'.map fun v => v.category).sum = W)
    (hN : Pays C N as G QN) (h : ∀ v G', QN v G' → Runs C M k n q P (v.toList ++ S') G' Q) : Runs C M k n pc P S G Q := by
  intro hw p e s m args below meth c T locs L hx hby hml hret hnm hown hZ hf hsz X hR hF
  have hq := d.2
  subst hq hS
  have hr := hr0.al hfull
  obtain ⟨_, _, ⟨T1, L1, k1, n1⟩, -, X1, ⟨Lc, hQ, l1, y1, z1⟩, st⟩ := Jvm.LawKit.callS X hx (y := N.1) hown (mvT hZ (hw _ wl)) (mvT hZ (hw _ wt)) (mvT hZ (hw _ wc.2.1)) (mvT hZ (hw _ wc.1)) wc.2.2 (backOf (W := W) (Q := fun v h L => Fr C.2.2.1 L ∧ ∃ G', Rep C.2.1 C.2.2.1 h G' ∧ QN v G') (hN hw T.heap hR []) hZ (hw _ wc.1) (hw _ wc.2.1) hr.1 hr.2.1) (g := mkF m pc L (as.reverse ++ S')) rfl (by rw [hml]; exact hsz) (argsL := as) (rest := S') (ar.len rfl) rfl (by show 2 * 0 + _ ≤ _; omega) (hb hby d.1) (fun _ _ => ⟨rfl, rfl, hr.2.2.1, hr.2.2.2⟩)
  dsimp only [Pt.U, Pt.locs, Pt.cells, Pt.slots] at X1 l1 y1 z1 st hQ
  subst l1 y1 z1
  exact after_call hw hx hby hml hret hnm hown hZ hf hsz hF X1 hQ (by rw [hr0.2.2.1, hr0.2.2.2]; exact h) (fun t u => st t u)
theorem Runs.callV {QN : Option Value → AH → Prop} (d : DAt M pc (.invokevirtual idx) 3 q) (wl : Jvm.Cond.methodLink M.1.cls idx N.1 ∈ tables_1) (wd : Jvm.Cond.declares N.1 ∈ tables_1) (wi : Jvm.Cond.instanceMethod N.1 ∈ tables_1) (ws : Jvm.Cond.selects K.1 N.1 N.1 ∈ tables_1) (wc : code_w N) (ar : arity N as.length) (hr0 : room_ok M N W) (hfull : full_ok M k n) (hS : S = as.reverse ++ .ref a :: S') (hW : (S'.map fun v => v.category).sum = W)
    (hN : Pays C N (.ref a :: as) (top, (a, qq, ob) :: H) QN) (h : ∀ v G', QN v G' → Runs C M k n q P (v.toList ++ S') G' Q) : Runs C M k n pc P S (top, (a, qq, ob) :: H) Q := by
  intro hw p e s m args below meth c T locs L hx hby hml hret hnm hown hZ hf hsz X hR hF
  have hq := d.2
  subst hq hS
  have hr := hr0.al hfull
  obtain ⟨cB, kB, u1, -, u3⟩ := isOf hZ rfl hR.objs.2.2.1
  obtain ⟨_, _, ⟨T1, L1, k1, n1⟩, -, X1, ⟨Lc, hQ, l1, y1, z1⟩, st⟩ := X.virtualBack hx (y := N.1) (z := N.1) hown (mvT hZ (hw _ wl)) (mvT hZ (hw _ wd)) (notFace_of_selects (args := #[]) (mvT hZ (hw _ ws))) (mvT hZ (hw _ ws)) (mvT hZ (hw _ wi)) wc.2.2 (backOf (W := W) (Q := fun v h L => Fr C.2.2.1 L ∧ ∃ G', Rep C.2.1 C.2.2.1 h G' ∧ QN v G') (hN hw T.heap hR []) hZ (hw _ wc.1) (hw _ wc.2.1) hr.1 hr.2.1) u1 u3 (g := mkF m pc L (as.reverse ++ .ref a :: S')) rfl (by rw [hml]; exact hsz) (Steps.refl _) (argsL := as) (rest := S') (ar.len rfl) rfl (by show 2 * 0 + _ ≤ _; omega) (hb hby d.1) (fun _ _ => ⟨rfl, rfl, hr.2.2.1, hr.2.2.2⟩)
  dsimp only [Pt.U, Pt.locs, Pt.cells, Pt.slots] at X1 l1 y1 z1 st hQ
  subst l1 y1 z1
  exact after_call hw hx hby hml hret hnm hown hZ hf hsz hF X1 hQ (by rw [hr0.2.2.1, hr0.2.2.2]; exact h) (fun t u => st.trans u)
theorem Runs.callP {QN : Option Value → AH → Prop} (d : DAt M pc (.invokevirtual idx) 3 q) (wl : Jvm.Cond.methodLink M.1.cls idx N.1 ∈ tables_1) (wi : Jvm.Cond.instanceMethod N.1 ∈ tables_1) (wp : Jvm.Cond.privateMethod N.1 ∈ tables_1) (wK : N.1.cls = K.1) (wc : code_w N) (ar : arity N as.length) (hr0 : room_ok M N W) (hfull : full_ok M k n) (hS : S = as.reverse ++ .ref a :: S') (hW : (S'.map fun v => v.category).sum = W)
    (hN : Pays C N (.ref a :: as) (top, (a, qq, ob) :: H) QN) (h : ∀ v G', QN v G' → Runs C M k n q P (v.toList ++ S') G' Q) : Runs C M k n pc P S (top, (a, qq, ob) :: H) Q := by
  intro hw p e s m args below meth c T locs L hx hby hml hret hnm hown hZ hf hsz X hR hF
  have hq := d.2
  subst hq hS
  have hr := hr0.al hfull
  obtain ⟨cl, u1, u2⟩ := hR.objs.2.2.1.cell
  have hpr : s.PrivateAt N.1 := Cond.privateMethod_at (mvP hZ (hw _ wp) (args := #[]))
  obtain ⟨c2, k2, i1, i2, i3, i4, -⟩ := Cond.instantiable_spec (mvT (args := args) hZ (hw _ kI))
  have hsel : (Jvm.Cond.selects N.1.cls N.1 N.1).before args s = true := Stand.selects_self_of_private (by rw [wK]; exact i1) i2 (by simp at i4; exact i4.1) hpr (mvT hZ (hw _ wi)) wc.2.2
  obtain ⟨_, _, ⟨T1, L1, k1, n1⟩, -, X1, ⟨Lc, hQ, l1, y1, z1⟩, st⟩ := X.privateBack hx (y := N.1) hown (mvT hZ (hw _ wl)) (mvT hZ (hw _ wi)) hsel hpr (mvT hZ (hw _ wc.1)) wc.2.2 (backOf (W := W) (Q := fun v h L => Fr C.2.2.1 L ∧ ∃ G', Rep C.2.1 C.2.2.1 h G' ∧ QN v G') (hN hw T.heap hR []) hZ (hw _ wc.1) (hw _ wc.2.1) hr.1 hr.2.1) (g := mkF m pc L (as.reverse ++ .ref a :: S')) rfl (by rw [hml]; exact hsz) (Steps.refl _) (a := a) u1 u2 (argsL := as) (rest := S') (ar.len rfl) rfl (by show 2 * 0 + _ ≤ _; omega) (hb hby d.1) (fun _ _ => ⟨rfl, rfl, hr.2.2.1, hr.2.2.2⟩)
  dsimp only [Pt.U, Pt.locs, Pt.cells, Pt.slots] at X1 l1 y1 z1 st hQ
  subst l1 y1 z1
  exact after_call hw hx hby hml hret hnm hown hZ hf hsz hF X1 hQ (by rw [hr0.2.2.1, hr0.2.2.2]; exact h) (fun t u => st.trans u)
theorem Runs.callI {QN : Option Value → AH → Prop} (d : DAt M pc (.invokespecial idx) 3 q) (hi : N.1.name = "<init>") (hn : N.2.2.2.1 = none) (wl : Jvm.Cond.methodLink M.1.cls idx N.1 ∈ tables_1) (wi : Jvm.Cond.instanceMethod N.1 ∈ tables_1) (wc : code_w N) (ar : arity N as.length) (hr : room_al M N W k n) (hS : S = as.reverse ++ .ref a :: S') (hW : (S'.map fun v => v.category).sum = W) {k' n' : Nat} (hk' : k + N.2.2.2.2.cells = k') (hn' : n + N.2.2.2.2.slots = n')
    (hN : Pays C N (.ref a :: as) G QN) (h : ∀ v G', QN v G' → Runs C M k' n' q P (v.toList ++ S') G' Q) : Runs C M k n pc P S G Q := by
  intro hw p e s m args below meth c T locs L hx hby hml hret hnm hown hZ hf hsz X hR hF
  have hq := d.2
  subst hq hS hk' hn'
  have wc1 := hw _ wc.1
  obtain ⟨_, _, ⟨T1, L1, k1, n1⟩, -, X1, ⟨Lc, hQ, l1, y1, z1⟩, st⟩ := X.specialBack hx (y := N.1) hi hown (mvT hZ (hw _ wl)) (mvT hZ (hw _ wi)) (bytes := N.2.1) (maxL := N.2.2.1) (by have := mvT (args := args) hZ wc1; rw [hn] at this; exact this) wc.2.2 (backOf (W := W) (Q := fun v h L => Fr C.2.2.1 L ∧ ∃ G', Rep C.2.1 C.2.2.1 h G' ∧ QN v G') (hN hw T.heap hR []) hZ wc1 (hw _ wc.2.1) hr.1 hr.2.1) (g := mkF m pc L (as.reverse ++ .ref a :: S')) rfl (by rw [hml]; exact hsz) (Steps.refl _) (a := a) (argsL := as) (rest := S') (ar.len rfl) rfl (by show 2 * 0 + _ ≤ _; omega) (hb hby d.1) (fun _ _ => ⟨rfl, rfl, hr.2.2.1, hr.2.2.2⟩)
  dsimp only [Pt.U, Pt.locs, Pt.cells, Pt.slots] at X1 l1 y1 z1 st hQ
  subst l1 y1 z1
  exact after_call hw hx hby hml hret hnm hown hZ hf hsz hF X1 hQ h (fun t u => st.trans u)
/-- the plain form of a contract: one answer, one heap -/
abbrev Ans (r : Option Value) (G1 : AH) : Option Value → AH → Prop := fun v G' => v = r ∧ G' = G1
theorem ans1 {x : Value} {k n : Nat} (h : Runs C M k n pc P (x :: S) G1 Q) : ∀ v G', Ans (some x) G1 v G' → Runs C M k n pc P (v.toList ++ S) G' Q := by
  rintro v G' ⟨rfl, rfl⟩; exact h
theorem ans0 {k n : Nat} (h : Runs C M k n pc P S G1 Q) : ∀ v G', Ans none G1 v G' → Runs C M k n pc P (v.toList ++ S) G' Q := by
  rintro v G' ⟨rfl, rfl⟩; exact h
end Calls
theorem pnK : plainName "CausalStable" = true := by first | (simp [plainName, overriddenIn]; done) | decide +kernel
theorem pnL : plainName "CausalStableL6" = true := by first | (simp [plainName, overriddenIn]; done) | decide +kernel
theorem w0 : (Jvm.Cond.classLink "CausalStableL6" (7 : Nat) "CausalStable") ∈ tables_1 := mem1 0 rfl
theorem w3 : (Jvm.Cond.methodLink "CausalStableL6" (9 : Nat) ({ cls := "CausalStable", name := "<init>", desc := "(II)V" } : Jvm.MethodName)) ∈ tables_1 := mem1 3 rfl
theorem w4 : (Jvm.Cond.instanceMethod ({ cls := "CausalStable", name := "<init>", desc := "(II)V" } : Jvm.MethodName)) ∈ tables_1 := mem1 4 rfl
theorem w6 : (Jvm.Cond.methodLink "CausalStable" (1 : Nat) ({ cls := "java/lang/Object", name := "<init>", desc := "()V" } : Jvm.MethodName)) ∈ tables_1 := mem1 6 rfl
theorem w7 : (Jvm.Cond.instanceMethod ({ cls := "java/lang/Object", name := "<init>", desc := "()V" } : Jvm.MethodName)) ∈ tables_1 := mem1 7 rfl
theorem w8 : (Jvm.Cond.code ({ cls := "java/lang/Object", name := "<init>", desc := "()V" } : Jvm.MethodName) object_method_1_code (1 : Nat) (Option.none : Option Jvm.ClassFile.FieldType)) ∈ tables_1 := mem1 8 rfl
theorem w9 : (Jvm.Cond.arrayClass Jvm.ClassFile.FieldType.int) ∈ tables_1 := mem1 9 rfl
theorem w10 : (Jvm.Cond.fieldLink "CausalStable" (7 : Nat) "CausalStable" "sentCount" "[I") ∈ tables_1 := mem1 10 rfl
theorem w11 : (Jvm.Cond.lays "CausalStable" "CausalStable" "sentCount" "[I") ∈ tables_1 := mem1 11 rfl
theorem w12 : (Jvm.Cond.arrayClass Jvm.ClassFile.FieldType.boolean) ∈ tables_1 := mem1 12 rfl
theorem w13 : (Jvm.Cond.fieldLink "CausalStable" (13 : Nat) "CausalStable" "crashedFlag" "[Z") ∈ tables_1 := mem1 13 rfl
theorem w14 : (Jvm.Cond.lays "CausalStable" "CausalStable" "crashedFlag" "[Z") ∈ tables_1 := mem1 14 rfl
theorem w15 : (Jvm.Cond.fieldLink "CausalStable" (17 : Nat) "CausalStable" "del" "[I") ∈ tables_1 := mem1 15 rfl
theorem w16 : (Jvm.Cond.lays "CausalStable" "CausalStable" "del" "[I") ∈ tables_1 := mem1 16 rfl
theorem w17 : (Jvm.Cond.fieldLink "CausalStable" (20 : Nat) "CausalStable" "msgState" "[I") ∈ tables_1 := mem1 17 rfl
theorem w18 : (Jvm.Cond.lays "CausalStable" "CausalStable" "msgState" "[I") ∈ tables_1 := mem1 18 rfl
theorem w19 : (Jvm.Cond.fieldLink "CausalStable" (23 : Nat) "CausalStable" "stampArr" "[I") ∈ tables_1 := mem1 19 rfl
theorem w20 : (Jvm.Cond.lays "CausalStable" "CausalStable" "stampArr" "[I") ∈ tables_1 := mem1 20 rfl
theorem w21 : (Jvm.Cond.fieldLink "CausalStable" (26 : Nat) "CausalStable" "copyArr" "[I") ∈ tables_1 := mem1 21 rfl
theorem w22 : (Jvm.Cond.lays "CausalStable" "CausalStable" "copyArr" "[I") ∈ tables_1 := mem1 22 rfl
theorem w23 : (Jvm.Cond.fieldLink "CausalStable" (29 : Nat) "CausalStable" "known" "[I") ∈ tables_1 := mem1 23 rfl
theorem w24 : (Jvm.Cond.lays "CausalStable" "CausalStable" "known" "[I") ∈ tables_1 := mem1 24 rfl
theorem w25 : (Jvm.Cond.fieldLink "CausalStable" (32 : Nat) "CausalStable" "list" "[I") ∈ tables_1 := mem1 25 rfl
theorem w26 : (Jvm.Cond.lays "CausalStable" "CausalStable" "list" "[I") ∈ tables_1 := mem1 26 rfl
theorem w27 : (Jvm.Cond.fieldLink "CausalStable" (35 : Nat) "CausalStable" "listLen" "[I") ∈ tables_1 := mem1 27 rfl
theorem w28 : (Jvm.Cond.lays "CausalStable" "CausalStable" "listLen" "[I") ∈ tables_1 := mem1 28 rfl
theorem w29 : (Jvm.Cond.fieldLink "CausalStable" (38 : Nat) "CausalStable" "n" "I") ∈ tables_1 := mem1 29 rfl
theorem w30 : (Jvm.Cond.lays "CausalStable" "CausalStable" "n" "I") ∈ tables_1 := mem1 30 rfl
theorem w31 : (Jvm.Cond.fieldLink "CausalStable" (42 : Nat) "CausalStable" "cap" "I") ∈ tables_1 := mem1 31 rfl
theorem w32 : (Jvm.Cond.lays "CausalStable" "CausalStable" "cap" "I") ∈ tables_1 := mem1 32 rfl
theorem w33 : (Jvm.Cond.methodLink "CausalStableL6" (12 : Nat) ({ cls := "CausalStable", name := "broadcast", desc := "(I)I" } : Jvm.MethodName)) ∈ tables_1 := mem1 33 rfl
theorem w34 : (Jvm.Cond.declares ({ cls := "CausalStable", name := "broadcast", desc := "(I)I" } : Jvm.MethodName)) ∈ tables_1 := mem1 34 rfl
theorem w35 : (Jvm.Cond.instanceMethod ({ cls := "CausalStable", name := "broadcast", desc := "(I)I" } : Jvm.MethodName)) ∈ tables_1 := mem1 35 rfl
theorem w36 : (Jvm.Cond.selects "CausalStable" ({ cls := "CausalStable", name := "broadcast", desc := "(I)I" } : Jvm.MethodName) ({ cls := "CausalStable", name := "broadcast", desc := "(I)I" } : Jvm.MethodName)) ∈ tables_1 := mem1 36 rfl
theorem w38 : (Jvm.Cond.methodLink "CausalStable" (68 : Nat) ({ cls := "CausalStable", name := "validProc", desc := "(I)Z" } : Jvm.MethodName)) ∈ tables_1 := mem1 38 rfl
theorem w39 : (Jvm.Cond.instanceMethod ({ cls := "CausalStable", name := "validProc", desc := "(I)Z" } : Jvm.MethodName)) ∈ tables_1 := mem1 39 rfl
theorem w40 : (Jvm.Cond.privateMethod ({ cls := "CausalStable", name := "validProc", desc := "(I)Z" } : Jvm.MethodName)) ∈ tables_1 := mem1 40 rfl
theorem w42 : (Jvm.Cond.methodLink "CausalStable" (56 : Nat) ({ cls := "CausalStable", name := "msgIndex", desc := "(II)I" } : Jvm.MethodName)) ∈ tables_1 := mem1 42 rfl
theorem w43 : (Jvm.Cond.instanceMethod ({ cls := "CausalStable", name := "msgIndex", desc := "(II)I" } : Jvm.MethodName)) ∈ tables_1 := mem1 43 rfl
theorem w44 : (Jvm.Cond.privateMethod ({ cls := "CausalStable", name := "msgIndex", desc := "(II)I" } : Jvm.MethodName)) ∈ tables_1 := mem1 44 rfl
theorem w46 : (Jvm.Cond.methodLink "CausalStable" (64 : Nat) ({ cls := "CausalStable", name := "deliverAt", desc := "(III)V" } : Jvm.MethodName)) ∈ tables_1 := mem1 46 rfl
theorem w47 : (Jvm.Cond.instanceMethod ({ cls := "CausalStable", name := "deliverAt", desc := "(III)V" } : Jvm.MethodName)) ∈ tables_1 := mem1 47 rfl
theorem w48 : (Jvm.Cond.privateMethod ({ cls := "CausalStable", name := "deliverAt", desc := "(III)V" } : Jvm.MethodName)) ∈ tables_1 := mem1 48 rfl
theorem w50 : (Jvm.Cond.methodLink "CausalStable" (45 : Nat) ({ cls := "CausalStable", name := "stateIndex", desc := "(III)I" } : Jvm.MethodName)) ∈ tables_1 := mem1 50 rfl
theorem w51 : (Jvm.Cond.instanceMethod ({ cls := "CausalStable", name := "stateIndex", desc := "(III)I" } : Jvm.MethodName)) ∈ tables_1 := mem1 51 rfl
theorem w52 : (Jvm.Cond.privateMethod ({ cls := "CausalStable", name := "stateIndex", desc := "(III)I" } : Jvm.MethodName)) ∈ tables_1 := mem1 52 rfl
theorem w54 : (Jvm.Cond.methodLink "CausalStable" (49 : Nat) ({ cls := "CausalStable", name := "knownIndex", desc := "(III)I" } : Jvm.MethodName)) ∈ tables_1 := mem1 54 rfl
theorem w55 : (Jvm.Cond.instanceMethod ({ cls := "CausalStable", name := "knownIndex", desc := "(III)I" } : Jvm.MethodName)) ∈ tables_1 := mem1 55 rfl
theorem w56 : (Jvm.Cond.privateMethod ({ cls := "CausalStable", name := "knownIndex", desc := "(III)I" } : Jvm.MethodName)) ∈ tables_1 := mem1 56 rfl
theorem w58 : (Jvm.Cond.constantLong "CausalStableL6" (16 : Nat) (15 : Int64)) ∈ tables_1 := mem1 58 rfl
theorem w59 : (Jvm.Cond.methodLink "CausalStableL6" (42 : Nat) ({ cls := "CausalStableL6", name := "copySum", desc := "(LCausalStable;)I" } : Jvm.MethodName)) ∈ tables_1 := mem1 59 rfl
theorem w60 : (Jvm.Cond.static ({ cls := "CausalStableL6", name := "copySum", desc := "(LCausalStable;)I" } : Jvm.MethodName)) ∈ tables_1 := mem1 60 rfl
theorem w63 : (Jvm.Cond.methodLink "CausalStableL6" (73 : Nat) ({ cls := "CausalStable", name := "copies", desc := "(III)I" } : Jvm.MethodName)) ∈ tables_1 := mem1 63 rfl
theorem w64 : (Jvm.Cond.declares ({ cls := "CausalStable", name := "copies", desc := "(III)I" } : Jvm.MethodName)) ∈ tables_1 := mem1 64 rfl
theorem w65 : (Jvm.Cond.instanceMethod ({ cls := "CausalStable", name := "copies", desc := "(III)I" } : Jvm.MethodName)) ∈ tables_1 := mem1 65 rfl
theorem w66 : (Jvm.Cond.selects "CausalStable" ({ cls := "CausalStable", name := "copies", desc := "(III)I" } : Jvm.MethodName) ({ cls := "CausalStable", name := "copies", desc := "(III)I" } : Jvm.MethodName)) ∈ tables_1 := mem1 66 rfl
theorem w68 : (Jvm.Cond.methodLink "CausalStable" (52 : Nat) ({ cls := "CausalStable", name := "exists", desc := "(II)Z" } : Jvm.MethodName)) ∈ tables_1 := mem1 68 rfl
theorem w69 : (Jvm.Cond.instanceMethod ({ cls := "CausalStable", name := "exists", desc := "(II)Z" } : Jvm.MethodName)) ∈ tables_1 := mem1 69 rfl
theorem w70 : (Jvm.Cond.privateMethod ({ cls := "CausalStable", name := "exists", desc := "(II)Z" } : Jvm.MethodName)) ∈ tables_1 := mem1 70 rfl
theorem w72 : (Jvm.Cond.methodLink "CausalStable" (72 : Nat) ({ cls := "CausalStable", name := "copyIndex", desc := "(III)I" } : Jvm.MethodName)) ∈ tables_1 := mem1 72 rfl
theorem w73 : (Jvm.Cond.instanceMethod ({ cls := "CausalStable", name := "copyIndex", desc := "(III)I" } : Jvm.MethodName)) ∈ tables_1 := mem1 73 rfl
theorem w74 : (Jvm.Cond.privateMethod ({ cls := "CausalStable", name := "copyIndex", desc := "(III)I" } : Jvm.MethodName)) ∈ tables_1 := mem1 74 rfl
theorem w76 : (Jvm.Cond.methodLink "CausalStableL6" (48 : Nat) ({ cls := "CausalStableL6", name := "prunedCount", desc := "(LCausalStable;)I" } : Jvm.MethodName)) ∈ tables_1 := mem1 76 rfl
theorem w77 : (Jvm.Cond.static ({ cls := "CausalStableL6", name := "prunedCount", desc := "(LCausalStable;)I" } : Jvm.MethodName)) ∈ tables_1 := mem1 77 rfl
theorem w79 : (Jvm.Cond.methodLink "CausalStableL6" (76 : Nat) ({ cls := "CausalStable", name := "state", desc := "(III)I" } : Jvm.MethodName)) ∈ tables_1 := mem1 79 rfl
theorem w80 : (Jvm.Cond.declares ({ cls := "CausalStable", name := "state", desc := "(III)I" } : Jvm.MethodName)) ∈ tables_1 := mem1 80 rfl
theorem w81 : (Jvm.Cond.instanceMethod ({ cls := "CausalStable", name := "state", desc := "(III)I" } : Jvm.MethodName)) ∈ tables_1 := mem1 81 rfl
theorem w82 : (Jvm.Cond.selects "CausalStable" ({ cls := "CausalStable", name := "state", desc := "(III)I" } : Jvm.MethodName) ({ cls := "CausalStable", name := "state", desc := "(III)I" } : Jvm.MethodName)) ∈ tables_1 := mem1 82 rfl
theorem w84 : (Jvm.Cond.constantLong "CausalStableL6" (51 : Nat) (255 : Int64)) ∈ tables_1 := mem1 84 rfl
theorem w85 : (Jvm.Cond.methodLink "CausalStableL6" (53 : Nat) ({ cls := "CausalStableL6", name := "procOk", desc := "(LCausalStable;IIIZ)Z" } : Jvm.MethodName)) ∈ tables_1 := mem1 85 rfl
theorem w86 : (Jvm.Cond.static ({ cls := "CausalStableL6", name := "procOk", desc := "(LCausalStable;IIIZ)Z" } : Jvm.MethodName)) ∈ tables_1 := mem1 86 rfl
theorem w88 : (Jvm.Cond.methodLink "CausalStableL6" (57 : Nat) ({ cls := "CausalStable", name := "sent", desc := "(I)I" } : Jvm.MethodName)) ∈ tables_1 := mem1 88 rfl
theorem w89 : (Jvm.Cond.declares ({ cls := "CausalStable", name := "sent", desc := "(I)I" } : Jvm.MethodName)) ∈ tables_1 := mem1 89 rfl
theorem w90 : (Jvm.Cond.instanceMethod ({ cls := "CausalStable", name := "sent", desc := "(I)I" } : Jvm.MethodName)) ∈ tables_1 := mem1 90 rfl
theorem w91 : (Jvm.Cond.selects "CausalStable" ({ cls := "CausalStable", name := "sent", desc := "(I)I" } : Jvm.MethodName) ({ cls := "CausalStable", name := "sent", desc := "(I)I" } : Jvm.MethodName)) ∈ tables_1 := mem1 91 rfl
theorem w93 : (Jvm.Cond.methodLink "CausalStableL6" (60 : Nat) ({ cls := "CausalStable", name := "isCrashed", desc := "(I)Z" } : Jvm.MethodName)) ∈ tables_1 := mem1 93 rfl
theorem w94 : (Jvm.Cond.declares ({ cls := "CausalStable", name := "isCrashed", desc := "(I)Z" } : Jvm.MethodName)) ∈ tables_1 := mem1 94 rfl
theorem w95 : (Jvm.Cond.instanceMethod ({ cls := "CausalStable", name := "isCrashed", desc := "(I)Z" } : Jvm.MethodName)) ∈ tables_1 := mem1 95 rfl
theorem w96 : (Jvm.Cond.selects "CausalStable" ({ cls := "CausalStable", name := "isCrashed", desc := "(I)Z" } : Jvm.MethodName) ({ cls := "CausalStable", name := "isCrashed", desc := "(I)Z" } : Jvm.MethodName)) ∈ tables_1 := mem1 96 rfl
theorem w98 : (Jvm.Cond.methodLink "CausalStableL6" (64 : Nat) ({ cls := "CausalStable", name := "deliveredAt", desc := "(II)I" } : Jvm.MethodName)) ∈ tables_1 := mem1 98 rfl
theorem w99 : (Jvm.Cond.declares ({ cls := "CausalStable", name := "deliveredAt", desc := "(II)I" } : Jvm.MethodName)) ∈ tables_1 := mem1 99 rfl
theorem w100 : (Jvm.Cond.instanceMethod ({ cls := "CausalStable", name := "deliveredAt", desc := "(II)I" } : Jvm.MethodName)) ∈ tables_1 := mem1 100 rfl
theorem w101 : (Jvm.Cond.selects "CausalStable" ({ cls := "CausalStable", name := "deliveredAt", desc := "(II)I" } : Jvm.MethodName) ({ cls := "CausalStable", name := "deliveredAt", desc := "(II)I" } : Jvm.MethodName)) ∈ tables_1 := mem1 101 rfl
theorem w103 : (Jvm.Cond.methodLink "CausalStableL6" (67 : Nat) ({ cls := "CausalStable", name := "delivered", desc := "(II)I" } : Jvm.MethodName)) ∈ tables_1 := mem1 103 rfl
theorem w104 : (Jvm.Cond.declares ({ cls := "CausalStable", name := "delivered", desc := "(II)I" } : Jvm.MethodName)) ∈ tables_1 := mem1 104 rfl
theorem w105 : (Jvm.Cond.instanceMethod ({ cls := "CausalStable", name := "delivered", desc := "(II)I" } : Jvm.MethodName)) ∈ tables_1 := mem1 105 rfl
theorem w106 : (Jvm.Cond.selects "CausalStable" ({ cls := "CausalStable", name := "delivered", desc := "(II)I" } : Jvm.MethodName) ({ cls := "CausalStable", name := "delivered", desc := "(II)I" } : Jvm.MethodName)) ∈ tables_1 := mem1 106 rfl
theorem w108 : (Jvm.Cond.methodLink "CausalStableL6" (70 : Nat) ({ cls := "CausalStable", name := "known", desc := "(III)I" } : Jvm.MethodName)) ∈ tables_1 := mem1 108 rfl
theorem w109 : (Jvm.Cond.declares ({ cls := "CausalStable", name := "known", desc := "(III)I" } : Jvm.MethodName)) ∈ tables_1 := mem1 109 rfl
theorem w110 : (Jvm.Cond.instanceMethod ({ cls := "CausalStable", name := "known", desc := "(III)I" } : Jvm.MethodName)) ∈ tables_1 := mem1 110 rfl
theorem w111 : (Jvm.Cond.selects "CausalStable" ({ cls := "CausalStable", name := "known", desc := "(III)I" } : Jvm.MethodName) ({ cls := "CausalStable", name := "known", desc := "(III)I" } : Jvm.MethodName)) ∈ tables_1 := mem1 111 rfl
theorem w113 : (Jvm.Cond.methodLink "CausalStableL6" (22 : Nat) ({ cls := "CausalStable", name := "duplicate", desc := "(III)I" } : Jvm.MethodName)) ∈ tables_1 := mem1 113 rfl
theorem w114 : (Jvm.Cond.declares ({ cls := "CausalStable", name := "duplicate", desc := "(III)I" } : Jvm.MethodName)) ∈ tables_1 := mem1 114 rfl
theorem w115 : (Jvm.Cond.instanceMethod ({ cls := "CausalStable", name := "duplicate", desc := "(III)I" } : Jvm.MethodName)) ∈ tables_1 := mem1 115 rfl
theorem w116 : (Jvm.Cond.selects "CausalStable" ({ cls := "CausalStable", name := "duplicate", desc := "(III)I" } : Jvm.MethodName) ({ cls := "CausalStable", name := "duplicate", desc := "(III)I" } : Jvm.MethodName)) ∈ tables_1 := mem1 116 rfl
theorem w118 : (Jvm.Cond.methodLink "CausalStableL6" (39 : Nat) ({ cls := "CausalStable", name := "crash", desc := "(I)I" } : Jvm.MethodName)) ∈ tables_1 := mem1 118 rfl
theorem w119 : (Jvm.Cond.declares ({ cls := "CausalStable", name := "crash", desc := "(I)I" } : Jvm.MethodName)) ∈ tables_1 := mem1 119 rfl
theorem w120 : (Jvm.Cond.instanceMethod ({ cls := "CausalStable", name := "crash", desc := "(I)I" } : Jvm.MethodName)) ∈ tables_1 := mem1 120 rfl
theorem w121 : (Jvm.Cond.selects "CausalStable" ({ cls := "CausalStable", name := "crash", desc := "(I)I" } : Jvm.MethodName) ({ cls := "CausalStable", name := "crash", desc := "(I)I" } : Jvm.MethodName)) ∈ tables_1 := mem1 121 rfl
theorem w123 : (Jvm.Cond.methodLink "CausalStable" (82 : Nat) ({ cls := "CausalStable", name := "othersAllCrashed", desc := "(I)Z" } : Jvm.MethodName)) ∈ tables_1 := mem1 123 rfl
theorem w124 : (Jvm.Cond.instanceMethod ({ cls := "CausalStable", name := "othersAllCrashed", desc := "(I)Z" } : Jvm.MethodName)) ∈ tables_1 := mem1 124 rfl
theorem w125 : (Jvm.Cond.privateMethod ({ cls := "CausalStable", name := "othersAllCrashed", desc := "(I)Z" } : Jvm.MethodName)) ∈ tables_1 := mem1 125 rfl
theorem w127 : (Jvm.Cond.methodLink "CausalStableL6" (18 : Nat) ({ cls := "CausalStable", name := "receive", desc := "(III)I" } : Jvm.MethodName)) ∈ tables_1 := mem1 127 rfl
theorem w128 : (Jvm.Cond.declares ({ cls := "CausalStable", name := "receive", desc := "(III)I" } : Jvm.MethodName)) ∈ tables_1 := mem1 128 rfl
theorem w129 : (Jvm.Cond.instanceMethod ({ cls := "CausalStable", name := "receive", desc := "(III)I" } : Jvm.MethodName)) ∈ tables_1 := mem1 129 rfl
theorem w130 : (Jvm.Cond.selects "CausalStable" ({ cls := "CausalStable", name := "receive", desc := "(III)I" } : Jvm.MethodName) ({ cls := "CausalStable", name := "receive", desc := "(III)I" } : Jvm.MethodName)) ∈ tables_1 := mem1 130 rfl
theorem w132 : (Jvm.Cond.methodLink "CausalStableL6" (36 : Nat) ({ cls := "CausalStable", name := "prune", desc := "(I)I" } : Jvm.MethodName)) ∈ tables_1 := mem1 132 rfl
theorem w133 : (Jvm.Cond.declares ({ cls := "CausalStable", name := "prune", desc := "(I)I" } : Jvm.MethodName)) ∈ tables_1 := mem1 133 rfl
theorem w134 : (Jvm.Cond.instanceMethod ({ cls := "CausalStable", name := "prune", desc := "(I)I" } : Jvm.MethodName)) ∈ tables_1 := mem1 134 rfl
theorem w135 : (Jvm.Cond.selects "CausalStable" ({ cls := "CausalStable", name := "prune", desc := "(I)I" } : Jvm.MethodName) ({ cls := "CausalStable", name := "prune", desc := "(I)I" } : Jvm.MethodName)) ∈ tables_1 := mem1 135 rfl
theorem w137 : (Jvm.Cond.methodLink "CausalStableL6" (25 : Nat) ({ cls := "CausalStable", name := "drop", desc := "(III)I" } : Jvm.MethodName)) ∈ tables_1 := mem1 137 rfl
theorem w138 : (Jvm.Cond.declares ({ cls := "CausalStable", name := "drop", desc := "(III)I" } : Jvm.MethodName)) ∈ tables_1 := mem1 138 rfl
theorem w139 : (Jvm.Cond.instanceMethod ({ cls := "CausalStable", name := "drop", desc := "(III)I" } : Jvm.MethodName)) ∈ tables_1 := mem1 139 rfl
theorem w140 : (Jvm.Cond.selects "CausalStable" ({ cls := "CausalStable", name := "drop", desc := "(III)I" } : Jvm.MethodName) ({ cls := "CausalStable", name := "drop", desc := "(III)I" } : Jvm.MethodName)) ∈ tables_1 := mem1 140 rfl
theorem w142 : (Jvm.Cond.methodLink "CausalStableL6" (28 : Nat) ({ cls := "CausalStable", name := "retransmit", desc := "(IIII)I" } : Jvm.MethodName)) ∈ tables_1 := mem1 142 rfl
theorem w143 : (Jvm.Cond.declares ({ cls := "CausalStable", name := "retransmit", desc := "(IIII)I" } : Jvm.MethodName)) ∈ tables_1 := mem1 143 rfl
theorem w144 : (Jvm.Cond.instanceMethod ({ cls := "CausalStable", name := "retransmit", desc := "(IIII)I" } : Jvm.MethodName)) ∈ tables_1 := mem1 144 rfl
theorem w145 : (Jvm.Cond.selects "CausalStable" ({ cls := "CausalStable", name := "retransmit", desc := "(IIII)I" } : Jvm.MethodName) ({ cls := "CausalStable", name := "retransmit", desc := "(IIII)I" } : Jvm.MethodName)) ∈ tables_1 := mem1 145 rfl
theorem w147 : (Jvm.Cond.methodLink "CausalStableL6" (32 : Nat) ({ cls := "CausalStable", name := "gossip", desc := "(II)I" } : Jvm.MethodName)) ∈ tables_1 := mem1 147 rfl
theorem w148 : (Jvm.Cond.declares ({ cls := "CausalStable", name := "gossip", desc := "(II)I" } : Jvm.MethodName)) ∈ tables_1 := mem1 148 rfl
theorem w149 : (Jvm.Cond.instanceMethod ({ cls := "CausalStable", name := "gossip", desc := "(II)I" } : Jvm.MethodName)) ∈ tables_1 := mem1 149 rfl
theorem w150 : (Jvm.Cond.selects "CausalStable" ({ cls := "CausalStable", name := "gossip", desc := "(II)I" } : Jvm.MethodName) ({ cls := "CausalStable", name := "gossip", desc := "(II)I" } : Jvm.MethodName)) ∈ tables_1 := mem1 150 rfl
theorem w152 : (Jvm.Cond.methodLink "CausalStable" (79 : Nat) ({ cls := "CausalStable", name := "isStable", desc := "(III)Z" } : Jvm.MethodName)) ∈ tables_1 := mem1 152 rfl
theorem w153 : (Jvm.Cond.instanceMethod ({ cls := "CausalStable", name := "isStable", desc := "(III)Z" } : Jvm.MethodName)) ∈ tables_1 := mem1 153 rfl
theorem w154 : (Jvm.Cond.privateMethod ({ cls := "CausalStable", name := "isStable", desc := "(III)Z" } : Jvm.MethodName)) ∈ tables_1 := mem1 154 rfl
theorem w156 : (Jvm.Cond.methodLink "CausalStable" (75 : Nat) ({ cls := "CausalStable", name := "cascade", desc := "(I)I" } : Jvm.MethodName)) ∈ tables_1 := mem1 156 rfl
theorem w157 : (Jvm.Cond.instanceMethod ({ cls := "CausalStable", name := "cascade", desc := "(I)I" } : Jvm.MethodName)) ∈ tables_1 := mem1 157 rfl
theorem w158 : (Jvm.Cond.privateMethod ({ cls := "CausalStable", name := "cascade", desc := "(I)I" } : Jvm.MethodName)) ∈ tables_1 := mem1 158 rfl
theorem w160 : (Jvm.Cond.methodLink "CausalStable" (60 : Nat) ({ cls := "CausalStable", name := "isDeliverable", desc := "(III)Z" } : Jvm.MethodName)) ∈ tables_1 := mem1 160 rfl
theorem w161 : (Jvm.Cond.instanceMethod ({ cls := "CausalStable", name := "isDeliverable", desc := "(III)Z" } : Jvm.MethodName)) ∈ tables_1 := mem1 161 rfl
theorem w162 : (Jvm.Cond.privateMethod ({ cls := "CausalStable", name := "isDeliverable", desc := "(III)Z" } : Jvm.MethodName)) ∈ tables_1 := mem1 162 rfl
theorem fS_0 : K.2.1[0]? = some ("n", "I") := rfl
theorem fS_1 : K.2.1[1]? = some ("cap", "I") := rfl
theorem fA_0 : K.2.2[0]? = some ("sentCount", .int, (8 : Int32)) := rfl
theorem fA_1 : K.2.2[1]? = some ("crashedFlag", .boolean, (8 : Int32)) := rfl
theorem fA_2 : K.2.2[2]? = some ("del", .int, (64 : Int32)) := rfl
theorem fA_3 : K.2.2[3]? = some ("msgState", .int, (512 : Int32)) := rfl
theorem fA_4 : K.2.2[4]? = some ("stampArr", .int, (512 : Int32)) := rfl
theorem fA_5 : K.2.2[5]? = some ("copyArr", .int, (512 : Int32)) := rfl
theorem fA_6 : K.2.2[6]? = some ("known", .int, (512 : Int32)) := rfl
theorem fA_7 : K.2.2[7]? = some ("list", .int, (512 : Int32)) := rfl
theorem fA_8 : K.2.2[8]? = some ("listLen", .int, (8 : Int32)) := rfl
theorem cb_m7 : (Int8.ofInt (-7)).toInt32 = (-7 : Int32) := by decide
theorem cb_m6 : (Int8.ofInt (-6)).toInt32 = (-6 : Int32) := by decide
theorem cb_m5 : (Int8.ofInt (-5)).toInt32 = (-5 : Int32) := by decide
theorem cb_m4 : (Int8.ofInt (-4)).toInt32 = (-4 : Int32) := by decide
theorem cb_m3 : (Int8.ofInt (-3)).toInt32 = (-3 : Int32) := by decide
theorem cb_m2 : (Int8.ofInt (-2)).toInt32 = (-2 : Int32) := by decide
theorem cb_7 : (Int8.ofInt 7).toInt32 = (7 : Int32) := by decide
theorem cb_8 : (Int8.ofInt 8).toInt32 = (8 : Int32) := by decide
theorem cb_9 : (Int8.ofInt 9).toInt32 = (9 : Int32) := by decide
theorem cb_12 : (Int8.ofInt 12).toInt32 = (12 : Int32) := by decide
theorem cb_13 : (Int8.ofInt 13).toInt32 = (13 : Int32) := by decide
theorem cb_15 : (Int8.ofInt 15).toInt32 = (15 : Int32) := by decide
theorem cb_16 : (Int8.ofInt 16).toInt32 = (16 : Int32) := by decide
theorem cb_36 : (Int8.ofInt 36).toInt32 = (36 : Int32) := by decide
theorem cb_64 : (Int8.ofInt 64).toInt32 = (64 : Int32) := by decide
theorem cb_65 : (Int8.ofInt 65).toInt32 = (65 : Int32) := by decide
theorem ci_m1 : Int32.ofInt (-1) = (-1 : Int32) := by decide
theorem ci_0 : Int32.ofInt 0 = (0 : Int32) := by decide
theorem ci_1 : Int32.ofInt 1 = (1 : Int32) := by decide
theorem ci_2 : Int32.ofInt 2 = (2 : Int32) := by decide
theorem ci_3 : Int32.ofInt 3 = (3 : Int32) := by decide
theorem ci_4 : Int32.ofInt 4 = (4 : Int32) := by decide
theorem cl_0 : Int64.ofNat (0 : Fin 2) = (0 : Int64) := by decide
theorem cl_1 : Int64.ofNat (1 : Fin 2) = (1 : Int64) := by decide
theorem cs_512 : (Int16.ofInt 512).toInt32 = (512 : Int32) := by decide
def B1 : Bdy := ((⟨"CausalStable", "<init>", "(II)V"⟩ : MethodName), prog_1_method_1_code, 5, none, ({ frames := 1, cells := 9, slots := 2648, locals := 12 } : Room))
theorem d1_0 : DAt B1 0 (.aload_n 0) 1 1 := ⟨by decide +kernel, rfl⟩
theorem d1_1 : DAt B1 1 (.invokespecial 1) 3 4 := ⟨by decide +kernel, rfl⟩
theorem d1_4 : DAt B1 4 (.aload_n 0) 1 5 := ⟨by decide +kernel, rfl⟩
theorem d1_5 : DAt B1 5 (.bipush 8) 2 7 := ⟨by decide +kernel, rfl⟩
theorem d1_7 : DAt B1 7 (.newarray .int) 2 9 := ⟨by decide +kernel, rfl⟩
theorem d1_9 : DAt B1 9 (.putfield 7) 3 12 := ⟨by decide +kernel, rfl⟩
theorem d1_12 : DAt B1 12 (.aload_n 0) 1 13 := ⟨by decide +kernel, rfl⟩
theorem d1_13 : DAt B1 13 (.bipush 8) 2 15 := ⟨by decide +kernel, rfl⟩
theorem d1_15 : DAt B1 15 (.newarray .boolean) 2 17 := ⟨by decide +kernel, rfl⟩
theorem d1_17 : DAt B1 17 (.putfield 13) 3 20 := ⟨by decide +kernel, rfl⟩
theorem d1_20 : DAt B1 20 (.aload_n 0) 1 21 := ⟨by decide +kernel, rfl⟩
theorem d1_21 : DAt B1 21 (.bipush 64) 2 23 := ⟨by decide +kernel, rfl⟩
theorem d1_23 : DAt B1 23 (.newarray .int) 2 25 := ⟨by decide +kernel, rfl⟩
theorem d1_25 : DAt B1 25 (.putfield 17) 3 28 := ⟨by decide +kernel, rfl⟩
theorem d1_28 : DAt B1 28 (.aload_n 0) 1 29 := ⟨by decide +kernel, rfl⟩
theorem d1_29 : DAt B1 29 (.sipush 512) 3 32 := ⟨by decide +kernel, rfl⟩
theorem d1_32 : DAt B1 32 (.newarray .int) 2 34 := ⟨by decide +kernel, rfl⟩
theorem d1_34 : DAt B1 34 (.putfield 20) 3 37 := ⟨by decide +kernel, rfl⟩
theorem d1_37 : DAt B1 37 (.aload_n 0) 1 38 := ⟨by decide +kernel, rfl⟩
theorem d1_38 : DAt B1 38 (.sipush 512) 3 41 := ⟨by decide +kernel, rfl⟩
theorem d1_41 : DAt B1 41 (.newarray .int) 2 43 := ⟨by decide +kernel, rfl⟩
theorem d1_43 : DAt B1 43 (.putfield 23) 3 46 := ⟨by decide +kernel, rfl⟩
theorem d1_46 : DAt B1 46 (.aload_n 0) 1 47 := ⟨by decide +kernel, rfl⟩
theorem d1_47 : DAt B1 47 (.sipush 512) 3 50 := ⟨by decide +kernel, rfl⟩
theorem d1_50 : DAt B1 50 (.newarray .int) 2 52 := ⟨by decide +kernel, rfl⟩
theorem d1_52 : DAt B1 52 (.putfield 26) 3 55 := ⟨by decide +kernel, rfl⟩
theorem d1_55 : DAt B1 55 (.aload_n 0) 1 56 := ⟨by decide +kernel, rfl⟩
theorem d1_56 : DAt B1 56 (.sipush 512) 3 59 := ⟨by decide +kernel, rfl⟩
theorem d1_59 : DAt B1 59 (.newarray .int) 2 61 := ⟨by decide +kernel, rfl⟩
theorem d1_61 : DAt B1 61 (.putfield 29) 3 64 := ⟨by decide +kernel, rfl⟩
theorem d1_64 : DAt B1 64 (.aload_n 0) 1 65 := ⟨by decide +kernel, rfl⟩
theorem d1_65 : DAt B1 65 (.sipush 512) 3 68 := ⟨by decide +kernel, rfl⟩
theorem d1_68 : DAt B1 68 (.newarray .int) 2 70 := ⟨by decide +kernel, rfl⟩
theorem d1_70 : DAt B1 70 (.putfield 32) 3 73 := ⟨by decide +kernel, rfl⟩
theorem d1_73 : DAt B1 73 (.aload_n 0) 1 74 := ⟨by decide +kernel, rfl⟩
theorem d1_74 : DAt B1 74 (.bipush 8) 2 76 := ⟨by decide +kernel, rfl⟩
theorem d1_76 : DAt B1 76 (.newarray .int) 2 78 := ⟨by decide +kernel, rfl⟩
theorem d1_78 : DAt B1 78 (.putfield 35) 3 81 := ⟨by decide +kernel, rfl⟩
theorem d1_81 : DAt B1 81 (.iload_n 1) 1 82 := ⟨by decide +kernel, rfl⟩
theorem d1_82 : DAt B1 82 (.istore_n 3) 1 83 := ⟨by decide +kernel, rfl⟩
theorem d1_83 : DAt B1 83 (.iload_n 3) 1 84 := ⟨by decide +kernel, rfl⟩
theorem d1_84 : DAt B1 84 (.iconst 2) 1 85 := ⟨by decide +kernel, rfl⟩
theorem d1_85 : DAt B1 85 (.if_icmp .ge 5) 3 88 := ⟨by decide +kernel, rfl⟩
theorem d1_88 : DAt B1 88 (.iconst 2) 1 89 := ⟨by decide +kernel, rfl⟩
theorem d1_89 : DAt B1 89 (.istore_n 3) 1 90 := ⟨by decide +kernel, rfl⟩
theorem d1_90 : DAt B1 90 (.iload_n 3) 1 91 := ⟨by decide +kernel, rfl⟩
theorem d1_91 : DAt B1 91 (.bipush 8) 2 93 := ⟨by decide +kernel, rfl⟩
theorem d1_93 : DAt B1 93 (.if_icmp .le 6) 3 96 := ⟨by decide +kernel, rfl⟩
theorem d1_96 : DAt B1 96 (.bipush 8) 2 98 := ⟨by decide +kernel, rfl⟩
theorem d1_98 : DAt B1 98 (.istore_n 3) 1 99 := ⟨by decide +kernel, rfl⟩
theorem d1_99 : DAt B1 99 (.aload_n 0) 1 100 := ⟨by decide +kernel, rfl⟩
theorem d1_100 : DAt B1 100 (.iload_n 3) 1 101 := ⟨by decide +kernel, rfl⟩
theorem d1_101 : DAt B1 101 (.putfield 38) 3 104 := ⟨by decide +kernel, rfl⟩
theorem d1_104 : DAt B1 104 (.iload_n 2) 1 105 := ⟨by decide +kernel, rfl⟩
theorem d1_105 : DAt B1 105 (.istore 4) 2 107 := ⟨by decide +kernel, rfl⟩
theorem d1_107 : DAt B1 107 (.iload 4) 2 109 := ⟨by decide +kernel, rfl⟩
theorem d1_109 : DAt B1 109 (.iconst 1) 1 110 := ⟨by decide +kernel, rfl⟩
theorem d1_110 : DAt B1 110 (.if_icmp .ge 6) 3 113 := ⟨by decide +kernel, rfl⟩
theorem d1_113 : DAt B1 113 (.iconst 1) 1 114 := ⟨by decide +kernel, rfl⟩
theorem d1_114 : DAt B1 114 (.istore 4) 2 116 := ⟨by decide +kernel, rfl⟩
theorem d1_116 : DAt B1 116 (.iload 4) 2 118 := ⟨by decide +kernel, rfl⟩
theorem d1_118 : DAt B1 118 (.bipush 8) 2 120 := ⟨by decide +kernel, rfl⟩
theorem d1_120 : DAt B1 120 (.if_icmp .le 7) 3 123 := ⟨by decide +kernel, rfl⟩
theorem d1_123 : DAt B1 123 (.bipush 8) 2 125 := ⟨by decide +kernel, rfl⟩
theorem d1_125 : DAt B1 125 (.istore 4) 2 127 := ⟨by decide +kernel, rfl⟩
theorem d1_127 : DAt B1 127 (.aload_n 0) 1 128 := ⟨by decide +kernel, rfl⟩
theorem d1_128 : DAt B1 128 (.iload 4) 2 130 := ⟨by decide +kernel, rfl⟩
theorem d1_130 : DAt B1 130 (.putfield 42) 3 133 := ⟨by decide +kernel, rfl⟩
theorem d1_133 : DAt B1 133 (.return_) 1 134 := ⟨by decide +kernel, rfl⟩
def B3 : Bdy := ((⟨"CausalStable", "validProc", "(I)Z"⟩ : MethodName), prog_1_method_2_code, 2, (some .boolean), ({ frames := 0, cells := 0, slots := 0, locals := 0 } : Room))
theorem d3_0 : DAt B3 0 (.iload_n 1) 1 1 := ⟨by decide +kernel, rfl⟩
theorem d3_1 : DAt B3 1 (.ifCond .lt 15) 3 4 := ⟨by decide +kernel, rfl⟩
theorem d3_4 : DAt B3 4 (.iload_n 1) 1 5 := ⟨by decide +kernel, rfl⟩
theorem d3_5 : DAt B3 5 (.aload_n 0) 1 6 := ⟨by decide +kernel, rfl⟩
theorem d3_6 : DAt B3 6 (.getfield 38) 3 9 := ⟨by decide +kernel, rfl⟩
theorem d3_9 : DAt B3 9 (.if_icmp .ge 7) 3 12 := ⟨by decide +kernel, rfl⟩
theorem d3_12 : DAt B3 12 (.iconst 1) 1 13 := ⟨by decide +kernel, rfl⟩
theorem d3_13 : DAt B3 13 (.goto 4) 3 16 := ⟨by decide +kernel, rfl⟩
theorem d3_16 : DAt B3 16 (.iconst 0) 1 17 := ⟨by decide +kernel, rfl⟩
theorem d3_17 : DAt B3 17 (.ireturn) 1 18 := ⟨by decide +kernel, rfl⟩
def B4 : Bdy := ((⟨"CausalStable", "msgIndex", "(II)I"⟩ : MethodName), prog_1_method_4_code, 3, (some .int), ({ frames := 0, cells := 0, slots := 0, locals := 0 } : Room))
theorem d4_0 : DAt B4 0 (.iload_n 1) 1 1 := ⟨by decide +kernel, rfl⟩
theorem d4_1 : DAt B4 1 (.bipush 8) 2 3 := ⟨by decide +kernel, rfl⟩
theorem d4_3 : DAt B4 3 (.imul) 1 4 := ⟨by decide +kernel, rfl⟩
theorem d4_4 : DAt B4 4 (.iload_n 2) 1 5 := ⟨by decide +kernel, rfl⟩
theorem d4_5 : DAt B4 5 (.iadd) 1 6 := ⟨by decide +kernel, rfl⟩
theorem d4_6 : DAt B4 6 (.iconst 1) 1 7 := ⟨by decide +kernel, rfl⟩
theorem d4_7 : DAt B4 7 (.isub) 1 8 := ⟨by decide +kernel, rfl⟩
theorem d4_8 : DAt B4 8 (.ireturn) 1 9 := ⟨by decide +kernel, rfl⟩
def B6 : Bdy := ((⟨"CausalStable", "stateIndex", "(III)I"⟩ : MethodName), prog_1_method_5_code, 4, (some .int), ({ frames := 0, cells := 0, slots := 0, locals := 0 } : Room))
theorem d6_0 : DAt B6 0 (.iload_n 1) 1 1 := ⟨by decide +kernel, rfl⟩
theorem d6_1 : DAt B6 1 (.bipush 64) 2 3 := ⟨by decide +kernel, rfl⟩
theorem d6_3 : DAt B6 3 (.imul) 1 4 := ⟨by decide +kernel, rfl⟩
theorem d6_4 : DAt B6 4 (.iload_n 2) 1 5 := ⟨by decide +kernel, rfl⟩
theorem d6_5 : DAt B6 5 (.bipush 8) 2 7 := ⟨by decide +kernel, rfl⟩
theorem d6_7 : DAt B6 7 (.imul) 1 8 := ⟨by decide +kernel, rfl⟩
theorem d6_8 : DAt B6 8 (.iadd) 1 9 := ⟨by decide +kernel, rfl⟩
theorem d6_9 : DAt B6 9 (.iload_n 3) 1 10 := ⟨by decide +kernel, rfl⟩
theorem d6_10 : DAt B6 10 (.iadd) 1 11 := ⟨by decide +kernel, rfl⟩
theorem d6_11 : DAt B6 11 (.iconst 1) 1 12 := ⟨by decide +kernel, rfl⟩
theorem d6_12 : DAt B6 12 (.isub) 1 13 := ⟨by decide +kernel, rfl⟩
theorem d6_13 : DAt B6 13 (.ireturn) 1 14 := ⟨by decide +kernel, rfl⟩
def B7 : Bdy := ((⟨"CausalStable", "knownIndex", "(III)I"⟩ : MethodName), prog_1_method_7_code, 4, (some .int), ({ frames := 0, cells := 0, slots := 0, locals := 0 } : Room))
theorem d7_0 : DAt B7 0 (.iload_n 1) 1 1 := ⟨by decide +kernel, rfl⟩
theorem d7_1 : DAt B7 1 (.bipush 64) 2 3 := ⟨by decide +kernel, rfl⟩
theorem d7_3 : DAt B7 3 (.imul) 1 4 := ⟨by decide +kernel, rfl⟩
theorem d7_4 : DAt B7 4 (.iload_n 2) 1 5 := ⟨by decide +kernel, rfl⟩
theorem d7_5 : DAt B7 5 (.bipush 8) 2 7 := ⟨by decide +kernel, rfl⟩
theorem d7_7 : DAt B7 7 (.imul) 1 8 := ⟨by decide +kernel, rfl⟩
theorem d7_8 : DAt B7 8 (.iadd) 1 9 := ⟨by decide +kernel, rfl⟩
theorem d7_9 : DAt B7 9 (.iload_n 3) 1 10 := ⟨by decide +kernel, rfl⟩
theorem d7_10 : DAt B7 10 (.iadd) 1 11 := ⟨by decide +kernel, rfl⟩
theorem d7_11 : DAt B7 11 (.ireturn) 1 12 := ⟨by decide +kernel, rfl⟩
def B5 : Bdy := ((⟨"CausalStable", "deliverAt", "(III)V"⟩ : MethodName), prog_1_method_8_code, 7, none, ({ frames := 1, cells := 0, slots := 0, locals := 15 } : Room))
theorem d5_0 : DAt B5 0 (.aload_n 0) 1 1 := ⟨by decide +kernel, rfl⟩
theorem d5_1 : DAt B5 1 (.iload_n 1) 1 2 := ⟨by decide +kernel, rfl⟩
theorem d5_2 : DAt B5 2 (.iload_n 2) 1 3 := ⟨by decide +kernel, rfl⟩
theorem d5_3 : DAt B5 3 (.iload_n 3) 1 4 := ⟨by decide +kernel, rfl⟩
theorem d5_4 : DAt B5 4 (.invokevirtual 45) 3 7 := ⟨by decide +kernel, rfl⟩
theorem d5_7 : DAt B5 7 (.istore 4) 2 9 := ⟨by decide +kernel, rfl⟩
theorem d5_9 : DAt B5 9 (.aload_n 0) 1 10 := ⟨by decide +kernel, rfl⟩
theorem d5_10 : DAt B5 10 (.getfield 20) 3 13 := ⟨by decide +kernel, rfl⟩
theorem d5_13 : DAt B5 13 (.iload 4) 2 15 := ⟨by decide +kernel, rfl⟩
theorem d5_15 : DAt B5 15 (.iconst 2) 1 16 := ⟨by decide +kernel, rfl⟩
theorem d5_16 : DAt B5 16 (.iastore) 1 17 := ⟨by decide +kernel, rfl⟩
theorem d5_17 : DAt B5 17 (.aload_n 0) 1 18 := ⟨by decide +kernel, rfl⟩
theorem d5_18 : DAt B5 18 (.getfield 17) 3 21 := ⟨by decide +kernel, rfl⟩
theorem d5_21 : DAt B5 21 (.iload_n 1) 1 22 := ⟨by decide +kernel, rfl⟩
theorem d5_22 : DAt B5 22 (.bipush 8) 2 24 := ⟨by decide +kernel, rfl⟩
theorem d5_24 : DAt B5 24 (.imul) 1 25 := ⟨by decide +kernel, rfl⟩
theorem d5_25 : DAt B5 25 (.iload_n 2) 1 26 := ⟨by decide +kernel, rfl⟩
theorem d5_26 : DAt B5 26 (.iadd) 1 27 := ⟨by decide +kernel, rfl⟩
theorem d5_27 : DAt B5 27 (.aload_n 0) 1 28 := ⟨by decide +kernel, rfl⟩
theorem d5_28 : DAt B5 28 (.getfield 17) 3 31 := ⟨by decide +kernel, rfl⟩
theorem d5_31 : DAt B5 31 (.iload_n 1) 1 32 := ⟨by decide +kernel, rfl⟩
theorem d5_32 : DAt B5 32 (.bipush 8) 2 34 := ⟨by decide +kernel, rfl⟩
theorem d5_34 : DAt B5 34 (.imul) 1 35 := ⟨by decide +kernel, rfl⟩
theorem d5_35 : DAt B5 35 (.iload_n 2) 1 36 := ⟨by decide +kernel, rfl⟩
theorem d5_36 : DAt B5 36 (.iadd) 1 37 := ⟨by decide +kernel, rfl⟩
theorem d5_37 : DAt B5 37 (.iaload) 1 38 := ⟨by decide +kernel, rfl⟩
theorem d5_38 : DAt B5 38 (.iconst 1) 1 39 := ⟨by decide +kernel, rfl⟩
theorem d5_39 : DAt B5 39 (.iadd) 1 40 := ⟨by decide +kernel, rfl⟩
theorem d5_40 : DAt B5 40 (.iastore) 1 41 := ⟨by decide +kernel, rfl⟩
theorem d5_41 : DAt B5 41 (.aload_n 0) 1 42 := ⟨by decide +kernel, rfl⟩
theorem d5_42 : DAt B5 42 (.getfield 35) 3 45 := ⟨by decide +kernel, rfl⟩
theorem d5_45 : DAt B5 45 (.iload_n 1) 1 46 := ⟨by decide +kernel, rfl⟩
theorem d5_46 : DAt B5 46 (.iaload) 1 47 := ⟨by decide +kernel, rfl⟩
theorem d5_47 : DAt B5 47 (.istore 5) 2 49 := ⟨by decide +kernel, rfl⟩
theorem d5_49 : DAt B5 49 (.iload 5) 2 51 := ⟨by decide +kernel, rfl⟩
theorem d5_51 : DAt B5 51 (.ifCond .lt 38) 3 54 := ⟨by decide +kernel, rfl⟩
theorem d5_54 : DAt B5 54 (.iload 5) 2 56 := ⟨by decide +kernel, rfl⟩
theorem d5_56 : DAt B5 56 (.bipush 64) 2 58 := ⟨by decide +kernel, rfl⟩
theorem d5_58 : DAt B5 58 (.if_icmp .ge 31) 3 61 := ⟨by decide +kernel, rfl⟩
theorem d5_61 : DAt B5 61 (.aload_n 0) 1 62 := ⟨by decide +kernel, rfl⟩
theorem d5_62 : DAt B5 62 (.getfield 32) 3 65 := ⟨by decide +kernel, rfl⟩
theorem d5_65 : DAt B5 65 (.iload_n 1) 1 66 := ⟨by decide +kernel, rfl⟩
theorem d5_66 : DAt B5 66 (.bipush 64) 2 68 := ⟨by decide +kernel, rfl⟩
theorem d5_68 : DAt B5 68 (.imul) 1 69 := ⟨by decide +kernel, rfl⟩
theorem d5_69 : DAt B5 69 (.iload 5) 2 71 := ⟨by decide +kernel, rfl⟩
theorem d5_71 : DAt B5 71 (.iadd) 1 72 := ⟨by decide +kernel, rfl⟩
theorem d5_72 : DAt B5 72 (.iload_n 2) 1 73 := ⟨by decide +kernel, rfl⟩
theorem d5_73 : DAt B5 73 (.bipush 16) 2 75 := ⟨by decide +kernel, rfl⟩
theorem d5_75 : DAt B5 75 (.imul) 1 76 := ⟨by decide +kernel, rfl⟩
theorem d5_76 : DAt B5 76 (.iload_n 3) 1 77 := ⟨by decide +kernel, rfl⟩
theorem d5_77 : DAt B5 77 (.iadd) 1 78 := ⟨by decide +kernel, rfl⟩
theorem d5_78 : DAt B5 78 (.iastore) 1 79 := ⟨by decide +kernel, rfl⟩
theorem d5_79 : DAt B5 79 (.aload_n 0) 1 80 := ⟨by decide +kernel, rfl⟩
theorem d5_80 : DAt B5 80 (.getfield 35) 3 83 := ⟨by decide +kernel, rfl⟩
theorem d5_83 : DAt B5 83 (.iload_n 1) 1 84 := ⟨by decide +kernel, rfl⟩
theorem d5_84 : DAt B5 84 (.iload 5) 2 86 := ⟨by decide +kernel, rfl⟩
theorem d5_86 : DAt B5 86 (.iconst 1) 1 87 := ⟨by decide +kernel, rfl⟩
theorem d5_87 : DAt B5 87 (.iadd) 1 88 := ⟨by decide +kernel, rfl⟩
theorem d5_88 : DAt B5 88 (.iastore) 1 89 := ⟨by decide +kernel, rfl⟩
theorem d5_89 : DAt B5 89 (.aload_n 0) 1 90 := ⟨by decide +kernel, rfl⟩
theorem d5_90 : DAt B5 90 (.iload_n 1) 1 91 := ⟨by decide +kernel, rfl⟩
theorem d5_91 : DAt B5 91 (.iload_n 1) 1 92 := ⟨by decide +kernel, rfl⟩
theorem d5_92 : DAt B5 92 (.iload_n 2) 1 93 := ⟨by decide +kernel, rfl⟩
theorem d5_93 : DAt B5 93 (.invokevirtual 49) 3 96 := ⟨by decide +kernel, rfl⟩
theorem d5_96 : DAt B5 96 (.istore 6) 2 98 := ⟨by decide +kernel, rfl⟩
theorem d5_98 : DAt B5 98 (.aload_n 0) 1 99 := ⟨by decide +kernel, rfl⟩
theorem d5_99 : DAt B5 99 (.getfield 29) 3 102 := ⟨by decide +kernel, rfl⟩
theorem d5_102 : DAt B5 102 (.iload 6) 2 104 := ⟨by decide +kernel, rfl⟩
theorem d5_104 : DAt B5 104 (.aload_n 0) 1 105 := ⟨by decide +kernel, rfl⟩
theorem d5_105 : DAt B5 105 (.getfield 17) 3 108 := ⟨by decide +kernel, rfl⟩
theorem d5_108 : DAt B5 108 (.iload_n 1) 1 109 := ⟨by decide +kernel, rfl⟩
theorem d5_109 : DAt B5 109 (.bipush 8) 2 111 := ⟨by decide +kernel, rfl⟩
theorem d5_111 : DAt B5 111 (.imul) 1 112 := ⟨by decide +kernel, rfl⟩
theorem d5_112 : DAt B5 112 (.iload_n 2) 1 113 := ⟨by decide +kernel, rfl⟩
theorem d5_113 : DAt B5 113 (.iadd) 1 114 := ⟨by decide +kernel, rfl⟩
theorem d5_114 : DAt B5 114 (.iaload) 1 115 := ⟨by decide +kernel, rfl⟩
theorem d5_115 : DAt B5 115 (.iastore) 1 116 := ⟨by decide +kernel, rfl⟩
theorem d5_116 : DAt B5 116 (.return_) 1 117 := ⟨by decide +kernel, rfl⟩
def B2 : Bdy := ((⟨"CausalStable", "broadcast", "(I)I"⟩ : MethodName), prog_1_method_13_code, 5, (some .int), ({ frames := 2, cells := 0, slots := 0, locals := 33 } : Room))
theorem d2_0 : DAt B2 0 (.aload_n 0) 1 1 := ⟨by decide +kernel, rfl⟩
theorem d2_1 : DAt B2 1 (.iload_n 1) 1 2 := ⟨by decide +kernel, rfl⟩
theorem d2_2 : DAt B2 2 (.invokevirtual 68) 3 5 := ⟨by decide +kernel, rfl⟩
theorem d2_5 : DAt B2 5 (.ifCond .ne 5) 3 8 := ⟨by decide +kernel, rfl⟩
theorem d2_8 : DAt B2 8 (.iconst (-1)) 1 9 := ⟨by decide +kernel, rfl⟩
theorem d2_9 : DAt B2 9 (.ireturn) 1 10 := ⟨by decide +kernel, rfl⟩
theorem d2_10 : DAt B2 10 (.aload_n 0) 1 11 := ⟨by decide +kernel, rfl⟩
theorem d2_11 : DAt B2 11 (.getfield 13) 3 14 := ⟨by decide +kernel, rfl⟩
theorem d2_14 : DAt B2 14 (.iload_n 1) 1 15 := ⟨by decide +kernel, rfl⟩
theorem d2_15 : DAt B2 15 (.baload) 1 16 := ⟨by decide +kernel, rfl⟩
theorem d2_16 : DAt B2 16 (.ifCond .eq 6) 3 19 := ⟨by decide +kernel, rfl⟩
theorem d2_19 : DAt B2 19 (.bipush (-2)) 2 21 := ⟨by decide +kernel, rfl⟩
theorem d2_21 : DAt B2 21 (.ireturn) 1 22 := ⟨by decide +kernel, rfl⟩
theorem d2_22 : DAt B2 22 (.aload_n 0) 1 23 := ⟨by decide +kernel, rfl⟩
theorem d2_23 : DAt B2 23 (.getfield 7) 3 26 := ⟨by decide +kernel, rfl⟩
theorem d2_26 : DAt B2 26 (.iload_n 1) 1 27 := ⟨by decide +kernel, rfl⟩
theorem d2_27 : DAt B2 27 (.iaload) 1 28 := ⟨by decide +kernel, rfl⟩
theorem d2_28 : DAt B2 28 (.aload_n 0) 1 29 := ⟨by decide +kernel, rfl⟩
theorem d2_29 : DAt B2 29 (.getfield 42) 3 32 := ⟨by decide +kernel, rfl⟩
theorem d2_32 : DAt B2 32 (.if_icmp .lt 6) 3 35 := ⟨by decide +kernel, rfl⟩
theorem d2_35 : DAt B2 35 (.bipush (-3)) 2 37 := ⟨by decide +kernel, rfl⟩
theorem d2_37 : DAt B2 37 (.ireturn) 1 38 := ⟨by decide +kernel, rfl⟩
theorem d2_38 : DAt B2 38 (.aload_n 0) 1 39 := ⟨by decide +kernel, rfl⟩
theorem d2_39 : DAt B2 39 (.getfield 7) 3 42 := ⟨by decide +kernel, rfl⟩
theorem d2_42 : DAt B2 42 (.iload_n 1) 1 43 := ⟨by decide +kernel, rfl⟩
theorem d2_43 : DAt B2 43 (.iaload) 1 44 := ⟨by decide +kernel, rfl⟩
theorem d2_44 : DAt B2 44 (.iconst 1) 1 45 := ⟨by decide +kernel, rfl⟩
theorem d2_45 : DAt B2 45 (.iadd) 1 46 := ⟨by decide +kernel, rfl⟩
theorem d2_46 : DAt B2 46 (.istore_n 2) 1 47 := ⟨by decide +kernel, rfl⟩
theorem d2_47 : DAt B2 47 (.aload_n 0) 1 48 := ⟨by decide +kernel, rfl⟩
theorem d2_48 : DAt B2 48 (.getfield 7) 3 51 := ⟨by decide +kernel, rfl⟩
theorem d2_51 : DAt B2 51 (.iload_n 1) 1 52 := ⟨by decide +kernel, rfl⟩
theorem d2_52 : DAt B2 52 (.iload_n 2) 1 53 := ⟨by decide +kernel, rfl⟩
theorem d2_53 : DAt B2 53 (.iastore) 1 54 := ⟨by decide +kernel, rfl⟩
theorem d2_54 : DAt B2 54 (.aload_n 0) 1 55 := ⟨by decide +kernel, rfl⟩
theorem d2_55 : DAt B2 55 (.iload_n 1) 1 56 := ⟨by decide +kernel, rfl⟩
theorem d2_56 : DAt B2 56 (.iload_n 2) 1 57 := ⟨by decide +kernel, rfl⟩
theorem d2_57 : DAt B2 57 (.invokevirtual 56) 3 60 := ⟨by decide +kernel, rfl⟩
theorem d2_60 : DAt B2 60 (.istore_n 3) 1 61 := ⟨by decide +kernel, rfl⟩
theorem d2_61 : DAt B2 61 (.iconst 0) 1 62 := ⟨by decide +kernel, rfl⟩
theorem d2_62 : DAt B2 62 (.istore 4) 2 64 := ⟨by decide +kernel, rfl⟩
theorem d2_64 : DAt B2 64 (.iload 4) 2 66 := ⟨by decide +kernel, rfl⟩
theorem d2_66 : DAt B2 66 (.aload_n 0) 1 67 := ⟨by decide +kernel, rfl⟩
theorem d2_67 : DAt B2 67 (.getfield 38) 3 70 := ⟨by decide +kernel, rfl⟩
theorem d2_70 : DAt B2 70 (.if_icmp .ge 33) 3 73 := ⟨by decide +kernel, rfl⟩
theorem d2_73 : DAt B2 73 (.aload_n 0) 1 74 := ⟨by decide +kernel, rfl⟩
theorem d2_74 : DAt B2 74 (.getfield 23) 3 77 := ⟨by decide +kernel, rfl⟩
theorem d2_77 : DAt B2 77 (.iload_n 3) 1 78 := ⟨by decide +kernel, rfl⟩
theorem d2_78 : DAt B2 78 (.bipush 8) 2 80 := ⟨by decide +kernel, rfl⟩
theorem d2_80 : DAt B2 80 (.imul) 1 81 := ⟨by decide +kernel, rfl⟩
theorem d2_81 : DAt B2 81 (.iload 4) 2 83 := ⟨by decide +kernel, rfl⟩
theorem d2_83 : DAt B2 83 (.iadd) 1 84 := ⟨by decide +kernel, rfl⟩
theorem d2_84 : DAt B2 84 (.aload_n 0) 1 85 := ⟨by decide +kernel, rfl⟩
theorem d2_85 : DAt B2 85 (.getfield 17) 3 88 := ⟨by decide +kernel, rfl⟩
theorem d2_88 : DAt B2 88 (.iload_n 1) 1 89 := ⟨by decide +kernel, rfl⟩
theorem d2_89 : DAt B2 89 (.bipush 8) 2 91 := ⟨by decide +kernel, rfl⟩
theorem d2_91 : DAt B2 91 (.imul) 1 92 := ⟨by decide +kernel, rfl⟩
theorem d2_92 : DAt B2 92 (.iload 4) 2 94 := ⟨by decide +kernel, rfl⟩
theorem d2_94 : DAt B2 94 (.iadd) 1 95 := ⟨by decide +kernel, rfl⟩
theorem d2_95 : DAt B2 95 (.iaload) 1 96 := ⟨by decide +kernel, rfl⟩
theorem d2_96 : DAt B2 96 (.iastore) 1 97 := ⟨by decide +kernel, rfl⟩
theorem d2_97 : DAt B2 97 (.iinc 4 1) 3 100 := ⟨by decide +kernel, rfl⟩
theorem d2_100 : DAt B2 100 (.goto (-36)) 3 103 := ⟨by decide +kernel, rfl⟩
theorem d2_103 : DAt B2 103 (.aload_n 0) 1 104 := ⟨by decide +kernel, rfl⟩
theorem d2_104 : DAt B2 104 (.getfield 23) 3 107 := ⟨by decide +kernel, rfl⟩
theorem d2_107 : DAt B2 107 (.iload_n 3) 1 108 := ⟨by decide +kernel, rfl⟩
theorem d2_108 : DAt B2 108 (.bipush 8) 2 110 := ⟨by decide +kernel, rfl⟩
theorem d2_110 : DAt B2 110 (.imul) 1 111 := ⟨by decide +kernel, rfl⟩
theorem d2_111 : DAt B2 111 (.iload_n 1) 1 112 := ⟨by decide +kernel, rfl⟩
theorem d2_112 : DAt B2 112 (.iadd) 1 113 := ⟨by decide +kernel, rfl⟩
theorem d2_113 : DAt B2 113 (.iload_n 2) 1 114 := ⟨by decide +kernel, rfl⟩
theorem d2_114 : DAt B2 114 (.iastore) 1 115 := ⟨by decide +kernel, rfl⟩
theorem d2_115 : DAt B2 115 (.aload_n 0) 1 116 := ⟨by decide +kernel, rfl⟩
theorem d2_116 : DAt B2 116 (.iload_n 1) 1 117 := ⟨by decide +kernel, rfl⟩
theorem d2_117 : DAt B2 117 (.iload_n 1) 1 118 := ⟨by decide +kernel, rfl⟩
theorem d2_118 : DAt B2 118 (.iload_n 2) 1 119 := ⟨by decide +kernel, rfl⟩
theorem d2_119 : DAt B2 119 (.invokevirtual 64) 3 122 := ⟨by decide +kernel, rfl⟩
theorem d2_122 : DAt B2 122 (.iconst 0) 1 123 := ⟨by decide +kernel, rfl⟩
theorem d2_123 : DAt B2 123 (.istore 4) 2 125 := ⟨by decide +kernel, rfl⟩
theorem d2_125 : DAt B2 125 (.iload 4) 2 127 := ⟨by decide +kernel, rfl⟩
theorem d2_127 : DAt B2 127 (.aload_n 0) 1 128 := ⟨by decide +kernel, rfl⟩
theorem d2_128 : DAt B2 128 (.getfield 38) 3 131 := ⟨by decide +kernel, rfl⟩
theorem d2_131 : DAt B2 131 (.if_icmp .ge 32) 3 134 := ⟨by decide +kernel, rfl⟩
theorem d2_134 : DAt B2 134 (.aload_n 0) 1 135 := ⟨by decide +kernel, rfl⟩
theorem d2_135 : DAt B2 135 (.getfield 26) 3 138 := ⟨by decide +kernel, rfl⟩
theorem d2_138 : DAt B2 138 (.iload_n 3) 1 139 := ⟨by decide +kernel, rfl⟩
theorem d2_139 : DAt B2 139 (.bipush 8) 2 141 := ⟨by decide +kernel, rfl⟩
theorem d2_141 : DAt B2 141 (.imul) 1 142 := ⟨by decide +kernel, rfl⟩
theorem d2_142 : DAt B2 142 (.iload 4) 2 144 := ⟨by decide +kernel, rfl⟩
theorem d2_144 : DAt B2 144 (.iadd) 1 145 := ⟨by decide +kernel, rfl⟩
theorem d2_145 : DAt B2 145 (.iload 4) 2 147 := ⟨by decide +kernel, rfl⟩
theorem d2_147 : DAt B2 147 (.iload_n 1) 1 148 := ⟨by decide +kernel, rfl⟩
theorem d2_148 : DAt B2 148 (.if_icmp .ne 7) 3 151 := ⟨by decide +kernel, rfl⟩
theorem d2_151 : DAt B2 151 (.iconst 0) 1 152 := ⟨by decide +kernel, rfl⟩
theorem d2_152 : DAt B2 152 (.goto 4) 3 155 := ⟨by decide +kernel, rfl⟩
theorem d2_155 : DAt B2 155 (.iconst 1) 1 156 := ⟨by decide +kernel, rfl⟩
theorem d2_156 : DAt B2 156 (.iastore) 1 157 := ⟨by decide +kernel, rfl⟩
theorem d2_157 : DAt B2 157 (.iinc 4 1) 3 160 := ⟨by decide +kernel, rfl⟩
theorem d2_160 : DAt B2 160 (.goto (-35)) 3 163 := ⟨by decide +kernel, rfl⟩
theorem d2_163 : DAt B2 163 (.iload_n 2) 1 164 := ⟨by decide +kernel, rfl⟩
theorem d2_164 : DAt B2 164 (.ireturn) 1 165 := ⟨by decide +kernel, rfl⟩
def B10 : Bdy := ((⟨"CausalStable", "exists", "(II)Z"⟩ : MethodName), prog_1_method_3_code, 3, (some .boolean), ({ frames := 0, cells := 0, slots := 0, locals := 0 } : Room))
theorem d10_0 : DAt B10 0 (.iload_n 1) 1 1 := ⟨by decide +kernel, rfl⟩
theorem d10_1 : DAt B10 1 (.ifCond .lt 30) 3 4 := ⟨by decide +kernel, rfl⟩
theorem d10_4 : DAt B10 4 (.iload_n 1) 1 5 := ⟨by decide +kernel, rfl⟩
theorem d10_5 : DAt B10 5 (.aload_n 0) 1 6 := ⟨by decide +kernel, rfl⟩
theorem d10_6 : DAt B10 6 (.getfield 38) 3 9 := ⟨by decide +kernel, rfl⟩
theorem d10_9 : DAt B10 9 (.if_icmp .ge 22) 3 12 := ⟨by decide +kernel, rfl⟩
theorem d10_12 : DAt B10 12 (.iload_n 2) 1 13 := ⟨by decide +kernel, rfl⟩
theorem d10_13 : DAt B10 13 (.iconst 1) 1 14 := ⟨by decide +kernel, rfl⟩
theorem d10_14 : DAt B10 14 (.if_icmp .lt 17) 3 17 := ⟨by decide +kernel, rfl⟩
theorem d10_17 : DAt B10 17 (.iload_n 2) 1 18 := ⟨by decide +kernel, rfl⟩
theorem d10_18 : DAt B10 18 (.aload_n 0) 1 19 := ⟨by decide +kernel, rfl⟩
theorem d10_19 : DAt B10 19 (.getfield 7) 3 22 := ⟨by decide +kernel, rfl⟩
theorem d10_22 : DAt B10 22 (.iload_n 1) 1 23 := ⟨by decide +kernel, rfl⟩
theorem d10_23 : DAt B10 23 (.iaload) 1 24 := ⟨by decide +kernel, rfl⟩
theorem d10_24 : DAt B10 24 (.if_icmp .gt 7) 3 27 := ⟨by decide +kernel, rfl⟩
theorem d10_27 : DAt B10 27 (.iconst 1) 1 28 := ⟨by decide +kernel, rfl⟩
theorem d10_28 : DAt B10 28 (.goto 4) 3 31 := ⟨by decide +kernel, rfl⟩
theorem d10_31 : DAt B10 31 (.iconst 0) 1 32 := ⟨by decide +kernel, rfl⟩
theorem d10_32 : DAt B10 32 (.ireturn) 1 33 := ⟨by decide +kernel, rfl⟩
def B11 : Bdy := ((⟨"CausalStable", "copyIndex", "(III)I"⟩ : MethodName), prog_1_method_6_code, 4, (some .int), ({ frames := 0, cells := 0, slots := 0, locals := 0 } : Room))
theorem d11_0 : DAt B11 0 (.iload_n 1) 1 1 := ⟨by decide +kernel, rfl⟩
theorem d11_1 : DAt B11 1 (.bipush 8) 2 3 := ⟨by decide +kernel, rfl⟩
theorem d11_3 : DAt B11 3 (.imul) 1 4 := ⟨by decide +kernel, rfl⟩
theorem d11_4 : DAt B11 4 (.iload_n 2) 1 5 := ⟨by decide +kernel, rfl⟩
theorem d11_5 : DAt B11 5 (.iadd) 1 6 := ⟨by decide +kernel, rfl⟩
theorem d11_6 : DAt B11 6 (.iconst 1) 1 7 := ⟨by decide +kernel, rfl⟩
theorem d11_7 : DAt B11 7 (.isub) 1 8 := ⟨by decide +kernel, rfl⟩
theorem d11_8 : DAt B11 8 (.bipush 8) 2 10 := ⟨by decide +kernel, rfl⟩
theorem d11_10 : DAt B11 10 (.imul) 1 11 := ⟨by decide +kernel, rfl⟩
theorem d11_11 : DAt B11 11 (.iload_n 3) 1 12 := ⟨by decide +kernel, rfl⟩
theorem d11_12 : DAt B11 12 (.iadd) 1 13 := ⟨by decide +kernel, rfl⟩
theorem d11_13 : DAt B11 13 (.ireturn) 1 14 := ⟨by decide +kernel, rfl⟩
def B30 : Bdy := ((⟨"CausalStable", "isDeliverable", "(III)Z"⟩ : MethodName), prog_1_method_9_code, 7, (some .boolean), ({ frames := 1, cells := 0, slots := 0, locals := 15 } : Room))
theorem d30_0 : DAt B30 0 (.aload_n 0) 1 1 := ⟨by decide +kernel, rfl⟩
theorem d30_1 : DAt B30 1 (.iload_n 2) 1 2 := ⟨by decide +kernel, rfl⟩
theorem d30_2 : DAt B30 2 (.iload_n 3) 1 3 := ⟨by decide +kernel, rfl⟩
theorem d30_3 : DAt B30 3 (.invokevirtual 52) 3 6 := ⟨by decide +kernel, rfl⟩
theorem d30_6 : DAt B30 6 (.ifCond .ne 5) 3 9 := ⟨by decide +kernel, rfl⟩
theorem d30_9 : DAt B30 9 (.iconst 0) 1 10 := ⟨by decide +kernel, rfl⟩
theorem d30_10 : DAt B30 10 (.ireturn) 1 11 := ⟨by decide +kernel, rfl⟩
theorem d30_11 : DAt B30 11 (.aload_n 0) 1 12 := ⟨by decide +kernel, rfl⟩
theorem d30_12 : DAt B30 12 (.iload_n 1) 1 13 := ⟨by decide +kernel, rfl⟩
theorem d30_13 : DAt B30 13 (.iload_n 2) 1 14 := ⟨by decide +kernel, rfl⟩
theorem d30_14 : DAt B30 14 (.iload_n 3) 1 15 := ⟨by decide +kernel, rfl⟩
theorem d30_15 : DAt B30 15 (.invokevirtual 45) 3 18 := ⟨by decide +kernel, rfl⟩
theorem d30_18 : DAt B30 18 (.istore 4) 2 20 := ⟨by decide +kernel, rfl⟩
theorem d30_20 : DAt B30 20 (.aload_n 0) 1 21 := ⟨by decide +kernel, rfl⟩
theorem d30_21 : DAt B30 21 (.getfield 20) 3 24 := ⟨by decide +kernel, rfl⟩
theorem d30_24 : DAt B30 24 (.iload 4) 2 26 := ⟨by decide +kernel, rfl⟩
theorem d30_26 : DAt B30 26 (.iaload) 1 27 := ⟨by decide +kernel, rfl⟩
theorem d30_27 : DAt B30 27 (.iconst 1) 1 28 := ⟨by decide +kernel, rfl⟩
theorem d30_28 : DAt B30 28 (.if_icmp .eq 5) 3 31 := ⟨by decide +kernel, rfl⟩
theorem d30_31 : DAt B30 31 (.iconst 0) 1 32 := ⟨by decide +kernel, rfl⟩
theorem d30_32 : DAt B30 32 (.ireturn) 1 33 := ⟨by decide +kernel, rfl⟩
theorem d30_33 : DAt B30 33 (.iload_n 3) 1 34 := ⟨by decide +kernel, rfl⟩
theorem d30_34 : DAt B30 34 (.aload_n 0) 1 35 := ⟨by decide +kernel, rfl⟩
theorem d30_35 : DAt B30 35 (.getfield 17) 3 38 := ⟨by decide +kernel, rfl⟩
theorem d30_38 : DAt B30 38 (.iload_n 1) 1 39 := ⟨by decide +kernel, rfl⟩
theorem d30_39 : DAt B30 39 (.bipush 8) 2 41 := ⟨by decide +kernel, rfl⟩
theorem d30_41 : DAt B30 41 (.imul) 1 42 := ⟨by decide +kernel, rfl⟩
theorem d30_42 : DAt B30 42 (.iload_n 2) 1 43 := ⟨by decide +kernel, rfl⟩
theorem d30_43 : DAt B30 43 (.iadd) 1 44 := ⟨by decide +kernel, rfl⟩
theorem d30_44 : DAt B30 44 (.iaload) 1 45 := ⟨by decide +kernel, rfl⟩
theorem d30_45 : DAt B30 45 (.iconst 1) 1 46 := ⟨by decide +kernel, rfl⟩
theorem d30_46 : DAt B30 46 (.iadd) 1 47 := ⟨by decide +kernel, rfl⟩
theorem d30_47 : DAt B30 47 (.if_icmp .eq 5) 3 50 := ⟨by decide +kernel, rfl⟩
theorem d30_50 : DAt B30 50 (.iconst 0) 1 51 := ⟨by decide +kernel, rfl⟩
theorem d30_51 : DAt B30 51 (.ireturn) 1 52 := ⟨by decide +kernel, rfl⟩
theorem d30_52 : DAt B30 52 (.aload_n 0) 1 53 := ⟨by decide +kernel, rfl⟩
theorem d30_53 : DAt B30 53 (.iload_n 2) 1 54 := ⟨by decide +kernel, rfl⟩
theorem d30_54 : DAt B30 54 (.iload_n 3) 1 55 := ⟨by decide +kernel, rfl⟩
theorem d30_55 : DAt B30 55 (.invokevirtual 56) 3 58 := ⟨by decide +kernel, rfl⟩
theorem d30_58 : DAt B30 58 (.istore 5) 2 60 := ⟨by decide +kernel, rfl⟩
theorem d30_60 : DAt B30 60 (.iconst 0) 1 61 := ⟨by decide +kernel, rfl⟩
theorem d30_61 : DAt B30 61 (.istore 6) 2 63 := ⟨by decide +kernel, rfl⟩
theorem d30_63 : DAt B30 63 (.iload 6) 2 65 := ⟨by decide +kernel, rfl⟩
theorem d30_65 : DAt B30 65 (.aload_n 0) 1 66 := ⟨by decide +kernel, rfl⟩
theorem d30_66 : DAt B30 66 (.getfield 38) 3 69 := ⟨by decide +kernel, rfl⟩
theorem d30_69 : DAt B30 69 (.if_icmp .ge 45) 3 72 := ⟨by decide +kernel, rfl⟩
theorem d30_72 : DAt B30 72 (.iload 6) 2 74 := ⟨by decide +kernel, rfl⟩
theorem d30_74 : DAt B30 74 (.iload_n 2) 1 75 := ⟨by decide +kernel, rfl⟩
theorem d30_75 : DAt B30 75 (.if_icmp .eq 33) 3 78 := ⟨by decide +kernel, rfl⟩
theorem d30_78 : DAt B30 78 (.aload_n 0) 1 79 := ⟨by decide +kernel, rfl⟩
theorem d30_79 : DAt B30 79 (.getfield 23) 3 82 := ⟨by decide +kernel, rfl⟩
theorem d30_82 : DAt B30 82 (.iload 5) 2 84 := ⟨by decide +kernel, rfl⟩
theorem d30_84 : DAt B30 84 (.bipush 8) 2 86 := ⟨by decide +kernel, rfl⟩
theorem d30_86 : DAt B30 86 (.imul) 1 87 := ⟨by decide +kernel, rfl⟩
theorem d30_87 : DAt B30 87 (.iload 6) 2 89 := ⟨by decide +kernel, rfl⟩
theorem d30_89 : DAt B30 89 (.iadd) 1 90 := ⟨by decide +kernel, rfl⟩
theorem d30_90 : DAt B30 90 (.iaload) 1 91 := ⟨by decide +kernel, rfl⟩
theorem d30_91 : DAt B30 91 (.aload_n 0) 1 92 := ⟨by decide +kernel, rfl⟩
theorem d30_92 : DAt B30 92 (.getfield 17) 3 95 := ⟨by decide +kernel, rfl⟩
theorem d30_95 : DAt B30 95 (.iload_n 1) 1 96 := ⟨by decide +kernel, rfl⟩
theorem d30_96 : DAt B30 96 (.bipush 8) 2 98 := ⟨by decide +kernel, rfl⟩
theorem d30_98 : DAt B30 98 (.imul) 1 99 := ⟨by decide +kernel, rfl⟩
theorem d30_99 : DAt B30 99 (.iload 6) 2 101 := ⟨by decide +kernel, rfl⟩
theorem d30_101 : DAt B30 101 (.iadd) 1 102 := ⟨by decide +kernel, rfl⟩
theorem d30_102 : DAt B30 102 (.iaload) 1 103 := ⟨by decide +kernel, rfl⟩
theorem d30_103 : DAt B30 103 (.if_icmp .le 5) 3 106 := ⟨by decide +kernel, rfl⟩
theorem d30_106 : DAt B30 106 (.iconst 0) 1 107 := ⟨by decide +kernel, rfl⟩
theorem d30_107 : DAt B30 107 (.ireturn) 1 108 := ⟨by decide +kernel, rfl⟩
theorem d30_108 : DAt B30 108 (.iinc 6 1) 3 111 := ⟨by decide +kernel, rfl⟩
theorem d30_111 : DAt B30 111 (.goto (-48)) 3 114 := ⟨by decide +kernel, rfl⟩
theorem d30_114 : DAt B30 114 (.iconst 1) 1 115 := ⟨by decide +kernel, rfl⟩
theorem d30_115 : DAt B30 115 (.ireturn) 1 116 := ⟨by decide +kernel, rfl⟩
def B29 : Bdy := ((⟨"CausalStable", "cascade", "(I)I"⟩ : MethodName), prog_1_method_10_code, 8, (some .int), ({ frames := 2, cells := 0, slots := 0, locals := 33 } : Room))
theorem d29_0 : DAt B29 0 (.iconst 0) 1 1 := ⟨by decide +kernel, rfl⟩
theorem d29_1 : DAt B29 1 (.istore_n 2) 1 2 := ⟨by decide +kernel, rfl⟩
theorem d29_2 : DAt B29 2 (.iconst 0) 1 3 := ⟨by decide +kernel, rfl⟩
theorem d29_3 : DAt B29 3 (.istore_n 3) 1 4 := ⟨by decide +kernel, rfl⟩
theorem d29_4 : DAt B29 4 (.iload_n 3) 1 5 := ⟨by decide +kernel, rfl⟩
theorem d29_5 : DAt B29 5 (.bipush 65) 2 7 := ⟨by decide +kernel, rfl⟩
theorem d29_7 : DAt B29 7 (.if_icmp .ge 92) 3 10 := ⟨by decide +kernel, rfl⟩
theorem d29_10 : DAt B29 10 (.iconst (-1)) 1 11 := ⟨by decide +kernel, rfl⟩
theorem d29_11 : DAt B29 11 (.istore 4) 2 13 := ⟨by decide +kernel, rfl⟩
theorem d29_13 : DAt B29 13 (.iconst 0) 1 14 := ⟨by decide +kernel, rfl⟩
theorem d29_14 : DAt B29 14 (.istore 5) 2 16 := ⟨by decide +kernel, rfl⟩
theorem d29_16 : DAt B29 16 (.iconst 0) 1 17 := ⟨by decide +kernel, rfl⟩
theorem d29_17 : DAt B29 17 (.istore 6) 2 19 := ⟨by decide +kernel, rfl⟩
theorem d29_19 : DAt B29 19 (.iload 6) 2 21 := ⟨by decide +kernel, rfl⟩
theorem d29_21 : DAt B29 21 (.aload_n 0) 1 22 := ⟨by decide +kernel, rfl⟩
theorem d29_22 : DAt B29 22 (.getfield 38) 3 25 := ⟨by decide +kernel, rfl⟩
theorem d29_25 : DAt B29 25 (.if_icmp .ge 48) 3 28 := ⟨by decide +kernel, rfl⟩
theorem d29_28 : DAt B29 28 (.aload_n 0) 1 29 := ⟨by decide +kernel, rfl⟩
theorem d29_29 : DAt B29 29 (.getfield 17) 3 32 := ⟨by decide +kernel, rfl⟩
theorem d29_32 : DAt B29 32 (.iload_n 1) 1 33 := ⟨by decide +kernel, rfl⟩
theorem d29_33 : DAt B29 33 (.bipush 8) 2 35 := ⟨by decide +kernel, rfl⟩
theorem d29_35 : DAt B29 35 (.imul) 1 36 := ⟨by decide +kernel, rfl⟩
theorem d29_36 : DAt B29 36 (.iload 6) 2 38 := ⟨by decide +kernel, rfl⟩
theorem d29_38 : DAt B29 38 (.iadd) 1 39 := ⟨by decide +kernel, rfl⟩
theorem d29_39 : DAt B29 39 (.iaload) 1 40 := ⟨by decide +kernel, rfl⟩
theorem d29_40 : DAt B29 40 (.iconst 1) 1 41 := ⟨by decide +kernel, rfl⟩
theorem d29_41 : DAt B29 41 (.iadd) 1 42 := ⟨by decide +kernel, rfl⟩
theorem d29_42 : DAt B29 42 (.istore 7) 2 44 := ⟨by decide +kernel, rfl⟩
theorem d29_44 : DAt B29 44 (.aload_n 0) 1 45 := ⟨by decide +kernel, rfl⟩
theorem d29_45 : DAt B29 45 (.iload_n 1) 1 46 := ⟨by decide +kernel, rfl⟩
theorem d29_46 : DAt B29 46 (.iload 6) 2 48 := ⟨by decide +kernel, rfl⟩
theorem d29_48 : DAt B29 48 (.iload 7) 2 50 := ⟨by decide +kernel, rfl⟩
theorem d29_50 : DAt B29 50 (.invokevirtual 60) 3 53 := ⟨by decide +kernel, rfl⟩
theorem d29_53 : DAt B29 53 (.ifCond .eq 14) 3 56 := ⟨by decide +kernel, rfl⟩
theorem d29_56 : DAt B29 56 (.iload 6) 2 58 := ⟨by decide +kernel, rfl⟩
theorem d29_58 : DAt B29 58 (.istore 4) 2 60 := ⟨by decide +kernel, rfl⟩
theorem d29_60 : DAt B29 60 (.iload 7) 2 62 := ⟨by decide +kernel, rfl⟩
theorem d29_62 : DAt B29 62 (.istore 5) 2 64 := ⟨by decide +kernel, rfl⟩
theorem d29_64 : DAt B29 64 (.goto 9) 3 67 := ⟨by decide +kernel, rfl⟩
theorem d29_67 : DAt B29 67 (.iinc 6 1) 3 70 := ⟨by decide +kernel, rfl⟩
theorem d29_70 : DAt B29 70 (.goto (-51)) 3 73 := ⟨by decide +kernel, rfl⟩
theorem d29_73 : DAt B29 73 (.iload 4) 2 75 := ⟨by decide +kernel, rfl⟩
theorem d29_75 : DAt B29 75 (.ifCond .ge 6) 3 78 := ⟨by decide +kernel, rfl⟩
theorem d29_78 : DAt B29 78 (.goto 21) 3 81 := ⟨by decide +kernel, rfl⟩
theorem d29_81 : DAt B29 81 (.aload_n 0) 1 82 := ⟨by decide +kernel, rfl⟩
theorem d29_82 : DAt B29 82 (.iload_n 1) 1 83 := ⟨by decide +kernel, rfl⟩
theorem d29_83 : DAt B29 83 (.iload 4) 2 85 := ⟨by decide +kernel, rfl⟩
theorem d29_85 : DAt B29 85 (.iload 5) 2 87 := ⟨by decide +kernel, rfl⟩
theorem d29_87 : DAt B29 87 (.invokevirtual 64) 3 90 := ⟨by decide +kernel, rfl⟩
theorem d29_90 : DAt B29 90 (.iinc 2 1) 3 93 := ⟨by decide +kernel, rfl⟩
theorem d29_93 : DAt B29 93 (.iinc 3 1) 3 96 := ⟨by decide +kernel, rfl⟩
theorem d29_96 : DAt B29 96 (.goto (-92)) 3 99 := ⟨by decide +kernel, rfl⟩
theorem d29_99 : DAt B29 99 (.iload_n 2) 1 100 := ⟨by decide +kernel, rfl⟩
theorem d29_100 : DAt B29 100 (.ireturn) 1 101 := ⟨by decide +kernel, rfl⟩
def B23 : Bdy := ((⟨"CausalStable", "receive", "(III)I"⟩ : MethodName), prog_1_method_14_code, 6, (some .int), ({ frames := 3, cells := 0, slots := 0, locals := 52 } : Room))
theorem d23_0 : DAt B23 0 (.aload_n 0) 1 1 := ⟨by decide +kernel, rfl⟩
theorem d23_1 : DAt B23 1 (.iload_n 1) 1 2 := ⟨by decide +kernel, rfl⟩
theorem d23_2 : DAt B23 2 (.invokevirtual 68) 3 5 := ⟨by decide +kernel, rfl⟩
theorem d23_5 : DAt B23 5 (.ifCond .eq 12) 3 8 := ⟨by decide +kernel, rfl⟩
theorem d23_8 : DAt B23 8 (.aload_n 0) 1 9 := ⟨by decide +kernel, rfl⟩
theorem d23_9 : DAt B23 9 (.iload_n 2) 1 10 := ⟨by decide +kernel, rfl⟩
theorem d23_10 : DAt B23 10 (.iload_n 3) 1 11 := ⟨by decide +kernel, rfl⟩
theorem d23_11 : DAt B23 11 (.invokevirtual 52) 3 14 := ⟨by decide +kernel, rfl⟩
theorem d23_14 : DAt B23 14 (.ifCond .ne 5) 3 17 := ⟨by decide +kernel, rfl⟩
theorem d23_17 : DAt B23 17 (.iconst (-1)) 1 18 := ⟨by decide +kernel, rfl⟩
theorem d23_18 : DAt B23 18 (.ireturn) 1 19 := ⟨by decide +kernel, rfl⟩
theorem d23_19 : DAt B23 19 (.aload_n 0) 1 20 := ⟨by decide +kernel, rfl⟩
theorem d23_20 : DAt B23 20 (.getfield 13) 3 23 := ⟨by decide +kernel, rfl⟩
theorem d23_23 : DAt B23 23 (.iload_n 1) 1 24 := ⟨by decide +kernel, rfl⟩
theorem d23_24 : DAt B23 24 (.baload) 1 25 := ⟨by decide +kernel, rfl⟩
theorem d23_25 : DAt B23 25 (.ifCond .eq 6) 3 28 := ⟨by decide +kernel, rfl⟩
theorem d23_28 : DAt B23 28 (.bipush (-2)) 2 30 := ⟨by decide +kernel, rfl⟩
theorem d23_30 : DAt B23 30 (.ireturn) 1 31 := ⟨by decide +kernel, rfl⟩
theorem d23_31 : DAt B23 31 (.aload_n 0) 1 32 := ⟨by decide +kernel, rfl⟩
theorem d23_32 : DAt B23 32 (.iload_n 2) 1 33 := ⟨by decide +kernel, rfl⟩
theorem d23_33 : DAt B23 33 (.iload_n 3) 1 34 := ⟨by decide +kernel, rfl⟩
theorem d23_34 : DAt B23 34 (.iload_n 1) 1 35 := ⟨by decide +kernel, rfl⟩
theorem d23_35 : DAt B23 35 (.invokevirtual 72) 3 38 := ⟨by decide +kernel, rfl⟩
theorem d23_38 : DAt B23 38 (.istore 4) 2 40 := ⟨by decide +kernel, rfl⟩
theorem d23_40 : DAt B23 40 (.aload_n 0) 1 41 := ⟨by decide +kernel, rfl⟩
theorem d23_41 : DAt B23 41 (.getfield 26) 3 44 := ⟨by decide +kernel, rfl⟩
theorem d23_44 : DAt B23 44 (.iload 4) 2 46 := ⟨by decide +kernel, rfl⟩
theorem d23_46 : DAt B23 46 (.iaload) 1 47 := ⟨by decide +kernel, rfl⟩
theorem d23_47 : DAt B23 47 (.ifCond .ne 6) 3 50 := ⟨by decide +kernel, rfl⟩
theorem d23_50 : DAt B23 50 (.bipush (-4)) 2 52 := ⟨by decide +kernel, rfl⟩
theorem d23_52 : DAt B23 52 (.ireturn) 1 53 := ⟨by decide +kernel, rfl⟩
theorem d23_53 : DAt B23 53 (.aload_n 0) 1 54 := ⟨by decide +kernel, rfl⟩
theorem d23_54 : DAt B23 54 (.getfield 26) 3 57 := ⟨by decide +kernel, rfl⟩
theorem d23_57 : DAt B23 57 (.iload 4) 2 59 := ⟨by decide +kernel, rfl⟩
theorem d23_59 : DAt B23 59 (.aload_n 0) 1 60 := ⟨by decide +kernel, rfl⟩
theorem d23_60 : DAt B23 60 (.getfield 26) 3 63 := ⟨by decide +kernel, rfl⟩
theorem d23_63 : DAt B23 63 (.iload 4) 2 65 := ⟨by decide +kernel, rfl⟩
theorem d23_65 : DAt B23 65 (.iaload) 1 66 := ⟨by decide +kernel, rfl⟩
theorem d23_66 : DAt B23 66 (.iconst 1) 1 67 := ⟨by decide +kernel, rfl⟩
theorem d23_67 : DAt B23 67 (.isub) 1 68 := ⟨by decide +kernel, rfl⟩
theorem d23_68 : DAt B23 68 (.iastore) 1 69 := ⟨by decide +kernel, rfl⟩
theorem d23_69 : DAt B23 69 (.aload_n 0) 1 70 := ⟨by decide +kernel, rfl⟩
theorem d23_70 : DAt B23 70 (.iload_n 1) 1 71 := ⟨by decide +kernel, rfl⟩
theorem d23_71 : DAt B23 71 (.iload_n 2) 1 72 := ⟨by decide +kernel, rfl⟩
theorem d23_72 : DAt B23 72 (.iload_n 3) 1 73 := ⟨by decide +kernel, rfl⟩
theorem d23_73 : DAt B23 73 (.invokevirtual 45) 3 76 := ⟨by decide +kernel, rfl⟩
theorem d23_76 : DAt B23 76 (.istore 5) 2 78 := ⟨by decide +kernel, rfl⟩
theorem d23_78 : DAt B23 78 (.aload_n 0) 1 79 := ⟨by decide +kernel, rfl⟩
theorem d23_79 : DAt B23 79 (.getfield 20) 3 82 := ⟨by decide +kernel, rfl⟩
theorem d23_82 : DAt B23 82 (.iload 5) 2 84 := ⟨by decide +kernel, rfl⟩
theorem d23_84 : DAt B23 84 (.iaload) 1 85 := ⟨by decide +kernel, rfl⟩
theorem d23_85 : DAt B23 85 (.ifCond .eq 6) 3 88 := ⟨by decide +kernel, rfl⟩
theorem d23_88 : DAt B23 88 (.bipush (-5)) 2 90 := ⟨by decide +kernel, rfl⟩
theorem d23_90 : DAt B23 90 (.ireturn) 1 91 := ⟨by decide +kernel, rfl⟩
theorem d23_91 : DAt B23 91 (.aload_n 0) 1 92 := ⟨by decide +kernel, rfl⟩
theorem d23_92 : DAt B23 92 (.getfield 20) 3 95 := ⟨by decide +kernel, rfl⟩
theorem d23_95 : DAt B23 95 (.iload 5) 2 97 := ⟨by decide +kernel, rfl⟩
theorem d23_97 : DAt B23 97 (.iconst 1) 1 98 := ⟨by decide +kernel, rfl⟩
theorem d23_98 : DAt B23 98 (.iastore) 1 99 := ⟨by decide +kernel, rfl⟩
theorem d23_99 : DAt B23 99 (.aload_n 0) 1 100 := ⟨by decide +kernel, rfl⟩
theorem d23_100 : DAt B23 100 (.iload_n 1) 1 101 := ⟨by decide +kernel, rfl⟩
theorem d23_101 : DAt B23 101 (.invokevirtual 75) 3 104 := ⟨by decide +kernel, rfl⟩
theorem d23_104 : DAt B23 104 (.ireturn) 1 105 := ⟨by decide +kernel, rfl⟩
def B20 : Bdy := ((⟨"CausalStable", "duplicate", "(III)I"⟩ : MethodName), prog_1_method_15_code, 5, (some .int), ({ frames := 1, cells := 0, slots := 0, locals := 15 } : Room))
theorem d20_0 : DAt B20 0 (.aload_n 0) 1 1 := ⟨by decide +kernel, rfl⟩
theorem d20_1 : DAt B20 1 (.iload_n 1) 1 2 := ⟨by decide +kernel, rfl⟩
theorem d20_2 : DAt B20 2 (.iload_n 2) 1 3 := ⟨by decide +kernel, rfl⟩
theorem d20_3 : DAt B20 3 (.invokevirtual 52) 3 6 := ⟨by decide +kernel, rfl⟩
theorem d20_6 : DAt B20 6 (.ifCond .eq 11) 3 9 := ⟨by decide +kernel, rfl⟩
theorem d20_9 : DAt B20 9 (.aload_n 0) 1 10 := ⟨by decide +kernel, rfl⟩
theorem d20_10 : DAt B20 10 (.iload_n 3) 1 11 := ⟨by decide +kernel, rfl⟩
theorem d20_11 : DAt B20 11 (.invokevirtual 68) 3 14 := ⟨by decide +kernel, rfl⟩
theorem d20_14 : DAt B20 14 (.ifCond .ne 5) 3 17 := ⟨by decide +kernel, rfl⟩
theorem d20_17 : DAt B20 17 (.iconst (-1)) 1 18 := ⟨by decide +kernel, rfl⟩
theorem d20_18 : DAt B20 18 (.ireturn) 1 19 := ⟨by decide +kernel, rfl⟩
theorem d20_19 : DAt B20 19 (.aload_n 0) 1 20 := ⟨by decide +kernel, rfl⟩
theorem d20_20 : DAt B20 20 (.iload_n 1) 1 21 := ⟨by decide +kernel, rfl⟩
theorem d20_21 : DAt B20 21 (.iload_n 2) 1 22 := ⟨by decide +kernel, rfl⟩
theorem d20_22 : DAt B20 22 (.iload_n 3) 1 23 := ⟨by decide +kernel, rfl⟩
theorem d20_23 : DAt B20 23 (.invokevirtual 72) 3 26 := ⟨by decide +kernel, rfl⟩
theorem d20_26 : DAt B20 26 (.istore 4) 2 28 := ⟨by decide +kernel, rfl⟩
theorem d20_28 : DAt B20 28 (.aload_n 0) 1 29 := ⟨by decide +kernel, rfl⟩
theorem d20_29 : DAt B20 29 (.getfield 26) 3 32 := ⟨by decide +kernel, rfl⟩
theorem d20_32 : DAt B20 32 (.iload 4) 2 34 := ⟨by decide +kernel, rfl⟩
theorem d20_34 : DAt B20 34 (.iaload) 1 35 := ⟨by decide +kernel, rfl⟩
theorem d20_35 : DAt B20 35 (.ifCond .ne 6) 3 38 := ⟨by decide +kernel, rfl⟩
theorem d20_38 : DAt B20 38 (.bipush (-4)) 2 40 := ⟨by decide +kernel, rfl⟩
theorem d20_40 : DAt B20 40 (.ireturn) 1 41 := ⟨by decide +kernel, rfl⟩
theorem d20_41 : DAt B20 41 (.aload_n 0) 1 42 := ⟨by decide +kernel, rfl⟩
theorem d20_42 : DAt B20 42 (.getfield 26) 3 45 := ⟨by decide +kernel, rfl⟩
theorem d20_45 : DAt B20 45 (.iload 4) 2 47 := ⟨by decide +kernel, rfl⟩
theorem d20_47 : DAt B20 47 (.iaload) 1 48 := ⟨by decide +kernel, rfl⟩
theorem d20_48 : DAt B20 48 (.iconst 3) 1 49 := ⟨by decide +kernel, rfl⟩
theorem d20_49 : DAt B20 49 (.if_icmp .lt 6) 3 52 := ⟨by decide +kernel, rfl⟩
theorem d20_52 : DAt B20 52 (.bipush (-3)) 2 54 := ⟨by decide +kernel, rfl⟩
theorem d20_54 : DAt B20 54 (.ireturn) 1 55 := ⟨by decide +kernel, rfl⟩
theorem d20_55 : DAt B20 55 (.aload_n 0) 1 56 := ⟨by decide +kernel, rfl⟩
theorem d20_56 : DAt B20 56 (.getfield 26) 3 59 := ⟨by decide +kernel, rfl⟩
theorem d20_59 : DAt B20 59 (.iload 4) 2 61 := ⟨by decide +kernel, rfl⟩
theorem d20_61 : DAt B20 61 (.aload_n 0) 1 62 := ⟨by decide +kernel, rfl⟩
theorem d20_62 : DAt B20 62 (.getfield 26) 3 65 := ⟨by decide +kernel, rfl⟩
theorem d20_65 : DAt B20 65 (.iload 4) 2 67 := ⟨by decide +kernel, rfl⟩
theorem d20_67 : DAt B20 67 (.iaload) 1 68 := ⟨by decide +kernel, rfl⟩
theorem d20_68 : DAt B20 68 (.iconst 1) 1 69 := ⟨by decide +kernel, rfl⟩
theorem d20_69 : DAt B20 69 (.iadd) 1 70 := ⟨by decide +kernel, rfl⟩
theorem d20_70 : DAt B20 70 (.iastore) 1 71 := ⟨by decide +kernel, rfl⟩
theorem d20_71 : DAt B20 71 (.aload_n 0) 1 72 := ⟨by decide +kernel, rfl⟩
theorem d20_72 : DAt B20 72 (.getfield 26) 3 75 := ⟨by decide +kernel, rfl⟩
theorem d20_75 : DAt B20 75 (.iload 4) 2 77 := ⟨by decide +kernel, rfl⟩
theorem d20_77 : DAt B20 77 (.iaload) 1 78 := ⟨by decide +kernel, rfl⟩
theorem d20_78 : DAt B20 78 (.ireturn) 1 79 := ⟨by decide +kernel, rfl⟩
def B25 : Bdy := ((⟨"CausalStable", "drop", "(III)I"⟩ : MethodName), prog_1_method_16_code, 5, (some .int), ({ frames := 1, cells := 0, slots := 0, locals := 15 } : Room))
theorem d25_0 : DAt B25 0 (.aload_n 0) 1 1 := ⟨by decide +kernel, rfl⟩
theorem d25_1 : DAt B25 1 (.iload_n 1) 1 2 := ⟨by decide +kernel, rfl⟩
theorem d25_2 : DAt B25 2 (.iload_n 2) 1 3 := ⟨by decide +kernel, rfl⟩
theorem d25_3 : DAt B25 3 (.invokevirtual 52) 3 6 := ⟨by decide +kernel, rfl⟩
theorem d25_6 : DAt B25 6 (.ifCond .eq 11) 3 9 := ⟨by decide +kernel, rfl⟩
theorem d25_9 : DAt B25 9 (.aload_n 0) 1 10 := ⟨by decide +kernel, rfl⟩
theorem d25_10 : DAt B25 10 (.iload_n 3) 1 11 := ⟨by decide +kernel, rfl⟩
theorem d25_11 : DAt B25 11 (.invokevirtual 68) 3 14 := ⟨by decide +kernel, rfl⟩
theorem d25_14 : DAt B25 14 (.ifCond .ne 5) 3 17 := ⟨by decide +kernel, rfl⟩
theorem d25_17 : DAt B25 17 (.iconst (-1)) 1 18 := ⟨by decide +kernel, rfl⟩
theorem d25_18 : DAt B25 18 (.ireturn) 1 19 := ⟨by decide +kernel, rfl⟩
theorem d25_19 : DAt B25 19 (.aload_n 0) 1 20 := ⟨by decide +kernel, rfl⟩
theorem d25_20 : DAt B25 20 (.iload_n 1) 1 21 := ⟨by decide +kernel, rfl⟩
theorem d25_21 : DAt B25 21 (.iload_n 2) 1 22 := ⟨by decide +kernel, rfl⟩
theorem d25_22 : DAt B25 22 (.iload_n 3) 1 23 := ⟨by decide +kernel, rfl⟩
theorem d25_23 : DAt B25 23 (.invokevirtual 72) 3 26 := ⟨by decide +kernel, rfl⟩
theorem d25_26 : DAt B25 26 (.istore 4) 2 28 := ⟨by decide +kernel, rfl⟩
theorem d25_28 : DAt B25 28 (.aload_n 0) 1 29 := ⟨by decide +kernel, rfl⟩
theorem d25_29 : DAt B25 29 (.getfield 26) 3 32 := ⟨by decide +kernel, rfl⟩
theorem d25_32 : DAt B25 32 (.iload 4) 2 34 := ⟨by decide +kernel, rfl⟩
theorem d25_34 : DAt B25 34 (.iaload) 1 35 := ⟨by decide +kernel, rfl⟩
theorem d25_35 : DAt B25 35 (.ifCond .ne 6) 3 38 := ⟨by decide +kernel, rfl⟩
theorem d25_38 : DAt B25 38 (.bipush (-4)) 2 40 := ⟨by decide +kernel, rfl⟩
theorem d25_40 : DAt B25 40 (.ireturn) 1 41 := ⟨by decide +kernel, rfl⟩
theorem d25_41 : DAt B25 41 (.aload_n 0) 1 42 := ⟨by decide +kernel, rfl⟩
theorem d25_42 : DAt B25 42 (.getfield 26) 3 45 := ⟨by decide +kernel, rfl⟩
theorem d25_45 : DAt B25 45 (.iload 4) 2 47 := ⟨by decide +kernel, rfl⟩
theorem d25_47 : DAt B25 47 (.aload_n 0) 1 48 := ⟨by decide +kernel, rfl⟩
theorem d25_48 : DAt B25 48 (.getfield 26) 3 51 := ⟨by decide +kernel, rfl⟩
theorem d25_51 : DAt B25 51 (.iload 4) 2 53 := ⟨by decide +kernel, rfl⟩
theorem d25_53 : DAt B25 53 (.iaload) 1 54 := ⟨by decide +kernel, rfl⟩
theorem d25_54 : DAt B25 54 (.iconst 1) 1 55 := ⟨by decide +kernel, rfl⟩
theorem d25_55 : DAt B25 55 (.isub) 1 56 := ⟨by decide +kernel, rfl⟩
theorem d25_56 : DAt B25 56 (.iastore) 1 57 := ⟨by decide +kernel, rfl⟩
theorem d25_57 : DAt B25 57 (.aload_n 0) 1 58 := ⟨by decide +kernel, rfl⟩
theorem d25_58 : DAt B25 58 (.getfield 26) 3 61 := ⟨by decide +kernel, rfl⟩
theorem d25_61 : DAt B25 61 (.iload 4) 2 63 := ⟨by decide +kernel, rfl⟩
theorem d25_63 : DAt B25 63 (.iaload) 1 64 := ⟨by decide +kernel, rfl⟩
theorem d25_64 : DAt B25 64 (.ireturn) 1 65 := ⟨by decide +kernel, rfl⟩
def B26 : Bdy := ((⟨"CausalStable", "retransmit", "(IIII)I"⟩ : MethodName), prog_1_method_17_code, 7, (some .int), ({ frames := 1, cells := 0, slots := 0, locals := 15 } : Room))
theorem d26_0 : DAt B26 0 (.aload_n 0) 1 1 := ⟨by decide +kernel, rfl⟩
theorem d26_1 : DAt B26 1 (.iload_n 1) 1 2 := ⟨by decide +kernel, rfl⟩
theorem d26_2 : DAt B26 2 (.invokevirtual 68) 3 5 := ⟨by decide +kernel, rfl⟩
theorem d26_5 : DAt B26 5 (.ifCond .eq 26) 3 8 := ⟨by decide +kernel, rfl⟩
theorem d26_8 : DAt B26 8 (.aload_n 0) 1 9 := ⟨by decide +kernel, rfl⟩
theorem d26_9 : DAt B26 9 (.iload_n 2) 1 10 := ⟨by decide +kernel, rfl⟩
theorem d26_10 : DAt B26 10 (.invokevirtual 68) 3 13 := ⟨by decide +kernel, rfl⟩
theorem d26_13 : DAt B26 13 (.ifCond .eq 18) 3 16 := ⟨by decide +kernel, rfl⟩
theorem d26_16 : DAt B26 16 (.iload_n 1) 1 17 := ⟨by decide +kernel, rfl⟩
theorem d26_17 : DAt B26 17 (.iload_n 2) 1 18 := ⟨by decide +kernel, rfl⟩
theorem d26_18 : DAt B26 18 (.if_icmp .eq 13) 3 21 := ⟨by decide +kernel, rfl⟩
theorem d26_21 : DAt B26 21 (.aload_n 0) 1 22 := ⟨by decide +kernel, rfl⟩
theorem d26_22 : DAt B26 22 (.iload_n 3) 1 23 := ⟨by decide +kernel, rfl⟩
theorem d26_23 : DAt B26 23 (.iload 4) 2 25 := ⟨by decide +kernel, rfl⟩
theorem d26_25 : DAt B26 25 (.invokevirtual 52) 3 28 := ⟨by decide +kernel, rfl⟩
theorem d26_28 : DAt B26 28 (.ifCond .ne 5) 3 31 := ⟨by decide +kernel, rfl⟩
theorem d26_31 : DAt B26 31 (.iconst (-1)) 1 32 := ⟨by decide +kernel, rfl⟩
theorem d26_32 : DAt B26 32 (.ireturn) 1 33 := ⟨by decide +kernel, rfl⟩
theorem d26_33 : DAt B26 33 (.aload_n 0) 1 34 := ⟨by decide +kernel, rfl⟩
theorem d26_34 : DAt B26 34 (.getfield 13) 3 37 := ⟨by decide +kernel, rfl⟩
theorem d26_37 : DAt B26 37 (.iload_n 1) 1 38 := ⟨by decide +kernel, rfl⟩
theorem d26_38 : DAt B26 38 (.baload) 1 39 := ⟨by decide +kernel, rfl⟩
theorem d26_39 : DAt B26 39 (.ifCond .ne 12) 3 42 := ⟨by decide +kernel, rfl⟩
theorem d26_42 : DAt B26 42 (.aload_n 0) 1 43 := ⟨by decide +kernel, rfl⟩
theorem d26_43 : DAt B26 43 (.getfield 13) 3 46 := ⟨by decide +kernel, rfl⟩
theorem d26_46 : DAt B26 46 (.iload_n 2) 1 47 := ⟨by decide +kernel, rfl⟩
theorem d26_47 : DAt B26 47 (.baload) 1 48 := ⟨by decide +kernel, rfl⟩
theorem d26_48 : DAt B26 48 (.ifCond .eq 6) 3 51 := ⟨by decide +kernel, rfl⟩
theorem d26_51 : DAt B26 51 (.bipush (-2)) 2 53 := ⟨by decide +kernel, rfl⟩
theorem d26_53 : DAt B26 53 (.ireturn) 1 54 := ⟨by decide +kernel, rfl⟩
theorem d26_54 : DAt B26 54 (.aload_n 0) 1 55 := ⟨by decide +kernel, rfl⟩
theorem d26_55 : DAt B26 55 (.iload_n 1) 1 56 := ⟨by decide +kernel, rfl⟩
theorem d26_56 : DAt B26 56 (.iload_n 3) 1 57 := ⟨by decide +kernel, rfl⟩
theorem d26_57 : DAt B26 57 (.iload 4) 2 59 := ⟨by decide +kernel, rfl⟩
theorem d26_59 : DAt B26 59 (.invokevirtual 45) 3 62 := ⟨by decide +kernel, rfl⟩
theorem d26_62 : DAt B26 62 (.istore 5) 2 64 := ⟨by decide +kernel, rfl⟩
theorem d26_64 : DAt B26 64 (.aload_n 0) 1 65 := ⟨by decide +kernel, rfl⟩
theorem d26_65 : DAt B26 65 (.getfield 20) 3 68 := ⟨by decide +kernel, rfl⟩
theorem d26_68 : DAt B26 68 (.iload 5) 2 70 := ⟨by decide +kernel, rfl⟩
theorem d26_70 : DAt B26 70 (.iaload) 1 71 := ⟨by decide +kernel, rfl⟩
theorem d26_71 : DAt B26 71 (.iconst 2) 1 72 := ⟨by decide +kernel, rfl⟩
theorem d26_72 : DAt B26 72 (.if_icmp .eq 6) 3 75 := ⟨by decide +kernel, rfl⟩
theorem d26_75 : DAt B26 75 (.bipush (-6)) 2 77 := ⟨by decide +kernel, rfl⟩
theorem d26_77 : DAt B26 77 (.ireturn) 1 78 := ⟨by decide +kernel, rfl⟩
theorem d26_78 : DAt B26 78 (.aload_n 0) 1 79 := ⟨by decide +kernel, rfl⟩
theorem d26_79 : DAt B26 79 (.iload_n 3) 1 80 := ⟨by decide +kernel, rfl⟩
theorem d26_80 : DAt B26 80 (.iload 4) 2 82 := ⟨by decide +kernel, rfl⟩
theorem d26_82 : DAt B26 82 (.iload_n 2) 1 83 := ⟨by decide +kernel, rfl⟩
theorem d26_83 : DAt B26 83 (.invokevirtual 72) 3 86 := ⟨by decide +kernel, rfl⟩
theorem d26_86 : DAt B26 86 (.istore 6) 2 88 := ⟨by decide +kernel, rfl⟩
theorem d26_88 : DAt B26 88 (.aload_n 0) 1 89 := ⟨by decide +kernel, rfl⟩
theorem d26_89 : DAt B26 89 (.getfield 26) 3 92 := ⟨by decide +kernel, rfl⟩
theorem d26_92 : DAt B26 92 (.iload 6) 2 94 := ⟨by decide +kernel, rfl⟩
theorem d26_94 : DAt B26 94 (.iaload) 1 95 := ⟨by decide +kernel, rfl⟩
theorem d26_95 : DAt B26 95 (.iconst 3) 1 96 := ⟨by decide +kernel, rfl⟩
theorem d26_96 : DAt B26 96 (.if_icmp .lt 6) 3 99 := ⟨by decide +kernel, rfl⟩
theorem d26_99 : DAt B26 99 (.bipush (-3)) 2 101 := ⟨by decide +kernel, rfl⟩
theorem d26_101 : DAt B26 101 (.ireturn) 1 102 := ⟨by decide +kernel, rfl⟩
theorem d26_102 : DAt B26 102 (.aload_n 0) 1 103 := ⟨by decide +kernel, rfl⟩
theorem d26_103 : DAt B26 103 (.getfield 26) 3 106 := ⟨by decide +kernel, rfl⟩
theorem d26_106 : DAt B26 106 (.iload 6) 2 108 := ⟨by decide +kernel, rfl⟩
theorem d26_108 : DAt B26 108 (.aload_n 0) 1 109 := ⟨by decide +kernel, rfl⟩
theorem d26_109 : DAt B26 109 (.getfield 26) 3 112 := ⟨by decide +kernel, rfl⟩
theorem d26_112 : DAt B26 112 (.iload 6) 2 114 := ⟨by decide +kernel, rfl⟩
theorem d26_114 : DAt B26 114 (.iaload) 1 115 := ⟨by decide +kernel, rfl⟩
theorem d26_115 : DAt B26 115 (.iconst 1) 1 116 := ⟨by decide +kernel, rfl⟩
theorem d26_116 : DAt B26 116 (.iadd) 1 117 := ⟨by decide +kernel, rfl⟩
theorem d26_117 : DAt B26 117 (.iastore) 1 118 := ⟨by decide +kernel, rfl⟩
theorem d26_118 : DAt B26 118 (.iconst 0) 1 119 := ⟨by decide +kernel, rfl⟩
theorem d26_119 : DAt B26 119 (.ireturn) 1 120 := ⟨by decide +kernel, rfl⟩
def B27 : Bdy := ((⟨"CausalStable", "gossip", "(II)I"⟩ : MethodName), prog_1_method_18_code, 7, (some .int), ({ frames := 1, cells := 0, slots := 0, locals := 13 } : Room))
theorem d27_0 : DAt B27 0 (.aload_n 0) 1 1 := ⟨by decide +kernel, rfl⟩
theorem d27_1 : DAt B27 1 (.iload_n 1) 1 2 := ⟨by decide +kernel, rfl⟩
theorem d27_2 : DAt B27 2 (.invokevirtual 68) 3 5 := ⟨by decide +kernel, rfl⟩
theorem d27_5 : DAt B27 5 (.ifCond .eq 16) 3 8 := ⟨by decide +kernel, rfl⟩
theorem d27_8 : DAt B27 8 (.aload_n 0) 1 9 := ⟨by decide +kernel, rfl⟩
theorem d27_9 : DAt B27 9 (.iload_n 2) 1 10 := ⟨by decide +kernel, rfl⟩
theorem d27_10 : DAt B27 10 (.invokevirtual 68) 3 13 := ⟨by decide +kernel, rfl⟩
theorem d27_13 : DAt B27 13 (.ifCond .eq 8) 3 16 := ⟨by decide +kernel, rfl⟩
theorem d27_16 : DAt B27 16 (.iload_n 1) 1 17 := ⟨by decide +kernel, rfl⟩
theorem d27_17 : DAt B27 17 (.iload_n 2) 1 18 := ⟨by decide +kernel, rfl⟩
theorem d27_18 : DAt B27 18 (.if_icmp .ne 5) 3 21 := ⟨by decide +kernel, rfl⟩
theorem d27_21 : DAt B27 21 (.iconst (-1)) 1 22 := ⟨by decide +kernel, rfl⟩
theorem d27_22 : DAt B27 22 (.ireturn) 1 23 := ⟨by decide +kernel, rfl⟩
theorem d27_23 : DAt B27 23 (.aload_n 0) 1 24 := ⟨by decide +kernel, rfl⟩
theorem d27_24 : DAt B27 24 (.getfield 13) 3 27 := ⟨by decide +kernel, rfl⟩
theorem d27_27 : DAt B27 27 (.iload_n 1) 1 28 := ⟨by decide +kernel, rfl⟩
theorem d27_28 : DAt B27 28 (.baload) 1 29 := ⟨by decide +kernel, rfl⟩
theorem d27_29 : DAt B27 29 (.ifCond .ne 12) 3 32 := ⟨by decide +kernel, rfl⟩
theorem d27_32 : DAt B27 32 (.aload_n 0) 1 33 := ⟨by decide +kernel, rfl⟩
theorem d27_33 : DAt B27 33 (.getfield 13) 3 36 := ⟨by decide +kernel, rfl⟩
theorem d27_36 : DAt B27 36 (.iload_n 2) 1 37 := ⟨by decide +kernel, rfl⟩
theorem d27_37 : DAt B27 37 (.baload) 1 38 := ⟨by decide +kernel, rfl⟩
theorem d27_38 : DAt B27 38 (.ifCond .eq 6) 3 41 := ⟨by decide +kernel, rfl⟩
theorem d27_41 : DAt B27 41 (.bipush (-2)) 2 43 := ⟨by decide +kernel, rfl⟩
theorem d27_43 : DAt B27 43 (.ireturn) 1 44 := ⟨by decide +kernel, rfl⟩
theorem d27_44 : DAt B27 44 (.iconst 0) 1 45 := ⟨by decide +kernel, rfl⟩
theorem d27_45 : DAt B27 45 (.istore_n 3) 1 46 := ⟨by decide +kernel, rfl⟩
theorem d27_46 : DAt B27 46 (.iload_n 3) 1 47 := ⟨by decide +kernel, rfl⟩
theorem d27_47 : DAt B27 47 (.aload_n 0) 1 48 := ⟨by decide +kernel, rfl⟩
theorem d27_48 : DAt B27 48 (.getfield 38) 3 51 := ⟨by decide +kernel, rfl⟩
theorem d27_51 : DAt B27 51 (.if_icmp .ge 86) 3 54 := ⟨by decide +kernel, rfl⟩
theorem d27_54 : DAt B27 54 (.iconst 0) 1 55 := ⟨by decide +kernel, rfl⟩
theorem d27_55 : DAt B27 55 (.istore 4) 2 57 := ⟨by decide +kernel, rfl⟩
theorem d27_57 : DAt B27 57 (.iload 4) 2 59 := ⟨by decide +kernel, rfl⟩
theorem d27_59 : DAt B27 59 (.aload_n 0) 1 60 := ⟨by decide +kernel, rfl⟩
theorem d27_60 : DAt B27 60 (.getfield 38) 3 63 := ⟨by decide +kernel, rfl⟩
theorem d27_63 : DAt B27 63 (.if_icmp .ge 68) 3 66 := ⟨by decide +kernel, rfl⟩
theorem d27_66 : DAt B27 66 (.iload_n 2) 1 67 := ⟨by decide +kernel, rfl⟩
theorem d27_67 : DAt B27 67 (.bipush 64) 2 69 := ⟨by decide +kernel, rfl⟩
theorem d27_69 : DAt B27 69 (.imul) 1 70 := ⟨by decide +kernel, rfl⟩
theorem d27_70 : DAt B27 70 (.iload_n 3) 1 71 := ⟨by decide +kernel, rfl⟩
theorem d27_71 : DAt B27 71 (.bipush 8) 2 73 := ⟨by decide +kernel, rfl⟩
theorem d27_73 : DAt B27 73 (.imul) 1 74 := ⟨by decide +kernel, rfl⟩
theorem d27_74 : DAt B27 74 (.iadd) 1 75 := ⟨by decide +kernel, rfl⟩
theorem d27_75 : DAt B27 75 (.iload 4) 2 77 := ⟨by decide +kernel, rfl⟩
theorem d27_77 : DAt B27 77 (.iadd) 1 78 := ⟨by decide +kernel, rfl⟩
theorem d27_78 : DAt B27 78 (.istore 5) 2 80 := ⟨by decide +kernel, rfl⟩
theorem d27_80 : DAt B27 80 (.iload_n 1) 1 81 := ⟨by decide +kernel, rfl⟩
theorem d27_81 : DAt B27 81 (.bipush 64) 2 83 := ⟨by decide +kernel, rfl⟩
theorem d27_83 : DAt B27 83 (.imul) 1 84 := ⟨by decide +kernel, rfl⟩
theorem d27_84 : DAt B27 84 (.iload_n 3) 1 85 := ⟨by decide +kernel, rfl⟩
theorem d27_85 : DAt B27 85 (.bipush 8) 2 87 := ⟨by decide +kernel, rfl⟩
theorem d27_87 : DAt B27 87 (.imul) 1 88 := ⟨by decide +kernel, rfl⟩
theorem d27_88 : DAt B27 88 (.iadd) 1 89 := ⟨by decide +kernel, rfl⟩
theorem d27_89 : DAt B27 89 (.iload 4) 2 91 := ⟨by decide +kernel, rfl⟩
theorem d27_91 : DAt B27 91 (.iadd) 1 92 := ⟨by decide +kernel, rfl⟩
theorem d27_92 : DAt B27 92 (.istore 6) 2 94 := ⟨by decide +kernel, rfl⟩
theorem d27_94 : DAt B27 94 (.aload_n 0) 1 95 := ⟨by decide +kernel, rfl⟩
theorem d27_95 : DAt B27 95 (.getfield 29) 3 98 := ⟨by decide +kernel, rfl⟩
theorem d27_98 : DAt B27 98 (.iload 6) 2 100 := ⟨by decide +kernel, rfl⟩
theorem d27_100 : DAt B27 100 (.iaload) 1 101 := ⟨by decide +kernel, rfl⟩
theorem d27_101 : DAt B27 101 (.aload_n 0) 1 102 := ⟨by decide +kernel, rfl⟩
theorem d27_102 : DAt B27 102 (.getfield 29) 3 105 := ⟨by decide +kernel, rfl⟩
theorem d27_105 : DAt B27 105 (.iload 5) 2 107 := ⟨by decide +kernel, rfl⟩
theorem d27_107 : DAt B27 107 (.iaload) 1 108 := ⟨by decide +kernel, rfl⟩
theorem d27_108 : DAt B27 108 (.if_icmp .le 17) 3 111 := ⟨by decide +kernel, rfl⟩
theorem d27_111 : DAt B27 111 (.aload_n 0) 1 112 := ⟨by decide +kernel, rfl⟩
theorem d27_112 : DAt B27 112 (.getfield 29) 3 115 := ⟨by decide +kernel, rfl⟩
theorem d27_115 : DAt B27 115 (.iload 5) 2 117 := ⟨by decide +kernel, rfl⟩
theorem d27_117 : DAt B27 117 (.aload_n 0) 1 118 := ⟨by decide +kernel, rfl⟩
theorem d27_118 : DAt B27 118 (.getfield 29) 3 121 := ⟨by decide +kernel, rfl⟩
theorem d27_121 : DAt B27 121 (.iload 6) 2 123 := ⟨by decide +kernel, rfl⟩
theorem d27_123 : DAt B27 123 (.iaload) 1 124 := ⟨by decide +kernel, rfl⟩
theorem d27_124 : DAt B27 124 (.iastore) 1 125 := ⟨by decide +kernel, rfl⟩
theorem d27_125 : DAt B27 125 (.iinc 4 1) 3 128 := ⟨by decide +kernel, rfl⟩
theorem d27_128 : DAt B27 128 (.goto (-71)) 3 131 := ⟨by decide +kernel, rfl⟩
theorem d27_131 : DAt B27 131 (.iinc 3 1) 3 134 := ⟨by decide +kernel, rfl⟩
theorem d27_134 : DAt B27 134 (.goto (-88)) 3 137 := ⟨by decide +kernel, rfl⟩
theorem d27_137 : DAt B27 137 (.iconst 0) 1 138 := ⟨by decide +kernel, rfl⟩
theorem d27_138 : DAt B27 138 (.ireturn) 1 139 := ⟨by decide +kernel, rfl⟩
def B28 : Bdy := ((⟨"CausalStable", "isStable", "(III)Z"⟩ : MethodName), prog_1_method_11_code, 6, (some .boolean), ({ frames := 1, cells := 0, slots := 0, locals := 15 } : Room))
theorem d28_0 : DAt B28 0 (.iconst 0) 1 1 := ⟨by decide +kernel, rfl⟩
theorem d28_1 : DAt B28 1 (.istore 4) 2 3 := ⟨by decide +kernel, rfl⟩
theorem d28_3 : DAt B28 3 (.iload 4) 2 5 := ⟨by decide +kernel, rfl⟩
theorem d28_5 : DAt B28 5 (.aload_n 0) 1 6 := ⟨by decide +kernel, rfl⟩
theorem d28_6 : DAt B28 6 (.getfield 38) 3 9 := ⟨by decide +kernel, rfl⟩
theorem d28_9 : DAt B28 9 (.if_icmp .ge 42) 3 12 := ⟨by decide +kernel, rfl⟩
theorem d28_12 : DAt B28 12 (.aload_n 0) 1 13 := ⟨by decide +kernel, rfl⟩
theorem d28_13 : DAt B28 13 (.getfield 13) 3 16 := ⟨by decide +kernel, rfl⟩
theorem d28_16 : DAt B28 16 (.iload 4) 2 18 := ⟨by decide +kernel, rfl⟩
theorem d28_18 : DAt B28 18 (.baload) 1 19 := ⟨by decide +kernel, rfl⟩
theorem d28_19 : DAt B28 19 (.ifCond .ne 26) 3 22 := ⟨by decide +kernel, rfl⟩
theorem d28_22 : DAt B28 22 (.aload_n 0) 1 23 := ⟨by decide +kernel, rfl⟩
theorem d28_23 : DAt B28 23 (.iload_n 1) 1 24 := ⟨by decide +kernel, rfl⟩
theorem d28_24 : DAt B28 24 (.iload 4) 2 26 := ⟨by decide +kernel, rfl⟩
theorem d28_26 : DAt B28 26 (.iload_n 2) 1 27 := ⟨by decide +kernel, rfl⟩
theorem d28_27 : DAt B28 27 (.invokevirtual 49) 3 30 := ⟨by decide +kernel, rfl⟩
theorem d28_30 : DAt B28 30 (.istore 5) 2 32 := ⟨by decide +kernel, rfl⟩
theorem d28_32 : DAt B28 32 (.aload_n 0) 1 33 := ⟨by decide +kernel, rfl⟩
theorem d28_33 : DAt B28 33 (.getfield 29) 3 36 := ⟨by decide +kernel, rfl⟩
theorem d28_36 : DAt B28 36 (.iload 5) 2 38 := ⟨by decide +kernel, rfl⟩
theorem d28_38 : DAt B28 38 (.iaload) 1 39 := ⟨by decide +kernel, rfl⟩
theorem d28_39 : DAt B28 39 (.iload_n 3) 1 40 := ⟨by decide +kernel, rfl⟩
theorem d28_40 : DAt B28 40 (.if_icmp .ge 5) 3 43 := ⟨by decide +kernel, rfl⟩
theorem d28_43 : DAt B28 43 (.iconst 0) 1 44 := ⟨by decide +kernel, rfl⟩
theorem d28_44 : DAt B28 44 (.ireturn) 1 45 := ⟨by decide +kernel, rfl⟩
theorem d28_45 : DAt B28 45 (.iinc 4 1) 3 48 := ⟨by decide +kernel, rfl⟩
theorem d28_48 : DAt B28 48 (.goto (-45)) 3 51 := ⟨by decide +kernel, rfl⟩
theorem d28_51 : DAt B28 51 (.iconst 1) 1 52 := ⟨by decide +kernel, rfl⟩
theorem d28_52 : DAt B28 52 (.ireturn) 1 53 := ⟨by decide +kernel, rfl⟩
def B24 : Bdy := ((⟨"CausalStable", "prune", "(I)I"⟩ : MethodName), prog_1_method_19_code, 7, (some .int), ({ frames := 2, cells := 0, slots := 0, locals := 32 } : Room))
theorem d24_0 : DAt B24 0 (.aload_n 0) 1 1 := ⟨by decide +kernel, rfl⟩
theorem d24_1 : DAt B24 1 (.iload_n 1) 1 2 := ⟨by decide +kernel, rfl⟩
theorem d24_2 : DAt B24 2 (.invokevirtual 68) 3 5 := ⟨by decide +kernel, rfl⟩
theorem d24_5 : DAt B24 5 (.ifCond .ne 5) 3 8 := ⟨by decide +kernel, rfl⟩
theorem d24_8 : DAt B24 8 (.iconst (-1)) 1 9 := ⟨by decide +kernel, rfl⟩
theorem d24_9 : DAt B24 9 (.ireturn) 1 10 := ⟨by decide +kernel, rfl⟩
theorem d24_10 : DAt B24 10 (.aload_n 0) 1 11 := ⟨by decide +kernel, rfl⟩
theorem d24_11 : DAt B24 11 (.getfield 13) 3 14 := ⟨by decide +kernel, rfl⟩
theorem d24_14 : DAt B24 14 (.iload_n 1) 1 15 := ⟨by decide +kernel, rfl⟩
theorem d24_15 : DAt B24 15 (.baload) 1 16 := ⟨by decide +kernel, rfl⟩
theorem d24_16 : DAt B24 16 (.ifCond .eq 6) 3 19 := ⟨by decide +kernel, rfl⟩
theorem d24_19 : DAt B24 19 (.bipush (-2)) 2 21 := ⟨by decide +kernel, rfl⟩
theorem d24_21 : DAt B24 21 (.ireturn) 1 22 := ⟨by decide +kernel, rfl⟩
theorem d24_22 : DAt B24 22 (.iconst 0) 1 23 := ⟨by decide +kernel, rfl⟩
theorem d24_23 : DAt B24 23 (.istore_n 2) 1 24 := ⟨by decide +kernel, rfl⟩
theorem d24_24 : DAt B24 24 (.iconst 0) 1 25 := ⟨by decide +kernel, rfl⟩
theorem d24_25 : DAt B24 25 (.istore_n 3) 1 26 := ⟨by decide +kernel, rfl⟩
theorem d24_26 : DAt B24 26 (.iload_n 3) 1 27 := ⟨by decide +kernel, rfl⟩
theorem d24_27 : DAt B24 27 (.aload_n 0) 1 28 := ⟨by decide +kernel, rfl⟩
theorem d24_28 : DAt B24 28 (.getfield 38) 3 31 := ⟨by decide +kernel, rfl⟩
theorem d24_31 : DAt B24 31 (.if_icmp .ge 83) 3 34 := ⟨by decide +kernel, rfl⟩
theorem d24_34 : DAt B24 34 (.aload_n 0) 1 35 := ⟨by decide +kernel, rfl⟩
theorem d24_35 : DAt B24 35 (.getfield 7) 3 38 := ⟨by decide +kernel, rfl⟩
theorem d24_38 : DAt B24 38 (.iload_n 3) 1 39 := ⟨by decide +kernel, rfl⟩
theorem d24_39 : DAt B24 39 (.iaload) 1 40 := ⟨by decide +kernel, rfl⟩
theorem d24_40 : DAt B24 40 (.istore 4) 2 42 := ⟨by decide +kernel, rfl⟩
theorem d24_42 : DAt B24 42 (.iconst 1) 1 43 := ⟨by decide +kernel, rfl⟩
theorem d24_43 : DAt B24 43 (.istore 5) 2 45 := ⟨by decide +kernel, rfl⟩
theorem d24_45 : DAt B24 45 (.iload 5) 2 47 := ⟨by decide +kernel, rfl⟩
theorem d24_47 : DAt B24 47 (.iload 4) 2 49 := ⟨by decide +kernel, rfl⟩
theorem d24_49 : DAt B24 49 (.if_icmp .gt 59) 3 52 := ⟨by decide +kernel, rfl⟩
theorem d24_52 : DAt B24 52 (.iload 5) 2 54 := ⟨by decide +kernel, rfl⟩
theorem d24_54 : DAt B24 54 (.bipush 8) 2 56 := ⟨by decide +kernel, rfl⟩
theorem d24_56 : DAt B24 56 (.if_icmp .gt 52) 3 59 := ⟨by decide +kernel, rfl⟩
theorem d24_59 : DAt B24 59 (.aload_n 0) 1 60 := ⟨by decide +kernel, rfl⟩
theorem d24_60 : DAt B24 60 (.iload_n 1) 1 61 := ⟨by decide +kernel, rfl⟩
theorem d24_61 : DAt B24 61 (.iload_n 3) 1 62 := ⟨by decide +kernel, rfl⟩
theorem d24_62 : DAt B24 62 (.iload 5) 2 64 := ⟨by decide +kernel, rfl⟩
theorem d24_64 : DAt B24 64 (.invokevirtual 45) 3 67 := ⟨by decide +kernel, rfl⟩
theorem d24_67 : DAt B24 67 (.istore 6) 2 69 := ⟨by decide +kernel, rfl⟩
theorem d24_69 : DAt B24 69 (.aload_n 0) 1 70 := ⟨by decide +kernel, rfl⟩
theorem d24_70 : DAt B24 70 (.getfield 20) 3 73 := ⟨by decide +kernel, rfl⟩
theorem d24_73 : DAt B24 73 (.iload 6) 2 75 := ⟨by decide +kernel, rfl⟩
theorem d24_75 : DAt B24 75 (.iaload) 1 76 := ⟨by decide +kernel, rfl⟩
theorem d24_76 : DAt B24 76 (.iconst 2) 1 77 := ⟨by decide +kernel, rfl⟩
theorem d24_77 : DAt B24 77 (.if_icmp .ne 25) 3 80 := ⟨by decide +kernel, rfl⟩
theorem d24_80 : DAt B24 80 (.aload_n 0) 1 81 := ⟨by decide +kernel, rfl⟩
theorem d24_81 : DAt B24 81 (.iload_n 1) 1 82 := ⟨by decide +kernel, rfl⟩
theorem d24_82 : DAt B24 82 (.iload_n 3) 1 83 := ⟨by decide +kernel, rfl⟩
theorem d24_83 : DAt B24 83 (.iload 5) 2 85 := ⟨by decide +kernel, rfl⟩
theorem d24_85 : DAt B24 85 (.invokevirtual 79) 3 88 := ⟨by decide +kernel, rfl⟩
theorem d24_88 : DAt B24 88 (.ifCond .eq 14) 3 91 := ⟨by decide +kernel, rfl⟩
theorem d24_91 : DAt B24 91 (.aload_n 0) 1 92 := ⟨by decide +kernel, rfl⟩
theorem d24_92 : DAt B24 92 (.getfield 20) 3 95 := ⟨by decide +kernel, rfl⟩
theorem d24_95 : DAt B24 95 (.iload 6) 2 97 := ⟨by decide +kernel, rfl⟩
theorem d24_97 : DAt B24 97 (.iconst 3) 1 98 := ⟨by decide +kernel, rfl⟩
theorem d24_98 : DAt B24 98 (.iastore) 1 99 := ⟨by decide +kernel, rfl⟩
theorem d24_99 : DAt B24 99 (.iinc 2 1) 3 102 := ⟨by decide +kernel, rfl⟩
theorem d24_102 : DAt B24 102 (.iinc 5 1) 3 105 := ⟨by decide +kernel, rfl⟩
theorem d24_105 : DAt B24 105 (.goto (-60)) 3 108 := ⟨by decide +kernel, rfl⟩
theorem d24_108 : DAt B24 108 (.iinc 3 1) 3 111 := ⟨by decide +kernel, rfl⟩
theorem d24_111 : DAt B24 111 (.goto (-85)) 3 114 := ⟨by decide +kernel, rfl⟩
theorem d24_114 : DAt B24 114 (.iload_n 2) 1 115 := ⟨by decide +kernel, rfl⟩
theorem d24_115 : DAt B24 115 (.ireturn) 1 116 := ⟨by decide +kernel, rfl⟩
def B22 : Bdy := ((⟨"CausalStable", "othersAllCrashed", "(I)Z"⟩ : MethodName), prog_1_method_12_code, 3, (some .boolean), ({ frames := 0, cells := 0, slots := 0, locals := 0 } : Room))
theorem d22_0 : DAt B22 0 (.iconst 0) 1 1 := ⟨by decide +kernel, rfl⟩
theorem d22_1 : DAt B22 1 (.istore_n 2) 1 2 := ⟨by decide +kernel, rfl⟩
theorem d22_2 : DAt B22 2 (.iload_n 2) 1 3 := ⟨by decide +kernel, rfl⟩
theorem d22_3 : DAt B22 3 (.aload_n 0) 1 4 := ⟨by decide +kernel, rfl⟩
theorem d22_4 : DAt B22 4 (.getfield 38) 3 7 := ⟨by decide +kernel, rfl⟩
theorem d22_7 : DAt B22 7 (.if_icmp .ge 25) 3 10 := ⟨by decide +kernel, rfl⟩
theorem d22_10 : DAt B22 10 (.iload_n 2) 1 11 := ⟨by decide +kernel, rfl⟩
theorem d22_11 : DAt B22 11 (.iload_n 1) 1 12 := ⟨by decide +kernel, rfl⟩
theorem d22_12 : DAt B22 12 (.if_icmp .eq 14) 3 15 := ⟨by decide +kernel, rfl⟩
theorem d22_15 : DAt B22 15 (.aload_n 0) 1 16 := ⟨by decide +kernel, rfl⟩
theorem d22_16 : DAt B22 16 (.getfield 13) 3 19 := ⟨by decide +kernel, rfl⟩
theorem d22_19 : DAt B22 19 (.iload_n 2) 1 20 := ⟨by decide +kernel, rfl⟩
theorem d22_20 : DAt B22 20 (.baload) 1 21 := ⟨by decide +kernel, rfl⟩
theorem d22_21 : DAt B22 21 (.ifCond .ne 5) 3 24 := ⟨by decide +kernel, rfl⟩
theorem d22_24 : DAt B22 24 (.iconst 0) 1 25 := ⟨by decide +kernel, rfl⟩
theorem d22_25 : DAt B22 25 (.ireturn) 1 26 := ⟨by decide +kernel, rfl⟩
theorem d22_26 : DAt B22 26 (.iinc 2 1) 3 29 := ⟨by decide +kernel, rfl⟩
theorem d22_29 : DAt B22 29 (.goto (-27)) 3 32 := ⟨by decide +kernel, rfl⟩
theorem d22_32 : DAt B22 32 (.iconst 1) 1 33 := ⟨by decide +kernel, rfl⟩
theorem d22_33 : DAt B22 33 (.ireturn) 1 34 := ⟨by decide +kernel, rfl⟩
def B21 : Bdy := ((⟨"CausalStable", "crash", "(I)I"⟩ : MethodName), prog_1_method_20_code, 2, (some .int), ({ frames := 1, cells := 0, slots := 0, locals := 14 } : Room))
theorem d21_0 : DAt B21 0 (.aload_n 0) 1 1 := ⟨by decide +kernel, rfl⟩
theorem d21_1 : DAt B21 1 (.iload_n 1) 1 2 := ⟨by decide +kernel, rfl⟩
theorem d21_2 : DAt B21 2 (.invokevirtual 68) 3 5 := ⟨by decide +kernel, rfl⟩
theorem d21_5 : DAt B21 5 (.ifCond .ne 5) 3 8 := ⟨by decide +kernel, rfl⟩
theorem d21_8 : DAt B21 8 (.iconst (-1)) 1 9 := ⟨by decide +kernel, rfl⟩
theorem d21_9 : DAt B21 9 (.ireturn) 1 10 := ⟨by decide +kernel, rfl⟩
theorem d21_10 : DAt B21 10 (.aload_n 0) 1 11 := ⟨by decide +kernel, rfl⟩
theorem d21_11 : DAt B21 11 (.getfield 13) 3 14 := ⟨by decide +kernel, rfl⟩
theorem d21_14 : DAt B21 14 (.iload_n 1) 1 15 := ⟨by decide +kernel, rfl⟩
theorem d21_15 : DAt B21 15 (.baload) 1 16 := ⟨by decide +kernel, rfl⟩
theorem d21_16 : DAt B21 16 (.ifCond .eq 6) 3 19 := ⟨by decide +kernel, rfl⟩
theorem d21_19 : DAt B21 19 (.bipush (-2)) 2 21 := ⟨by decide +kernel, rfl⟩
theorem d21_21 : DAt B21 21 (.ireturn) 1 22 := ⟨by decide +kernel, rfl⟩
theorem d21_22 : DAt B21 22 (.aload_n 0) 1 23 := ⟨by decide +kernel, rfl⟩
theorem d21_23 : DAt B21 23 (.iload_n 1) 1 24 := ⟨by decide +kernel, rfl⟩
theorem d21_24 : DAt B21 24 (.invokevirtual 82) 3 27 := ⟨by decide +kernel, rfl⟩
theorem d21_27 : DAt B21 27 (.ifCond .eq 6) 3 30 := ⟨by decide +kernel, rfl⟩
theorem d21_30 : DAt B21 30 (.bipush (-7)) 2 32 := ⟨by decide +kernel, rfl⟩
theorem d21_32 : DAt B21 32 (.ireturn) 1 33 := ⟨by decide +kernel, rfl⟩
theorem d21_33 : DAt B21 33 (.aload_n 0) 1 34 := ⟨by decide +kernel, rfl⟩
theorem d21_34 : DAt B21 34 (.getfield 13) 3 37 := ⟨by decide +kernel, rfl⟩
theorem d21_37 : DAt B21 37 (.iload_n 1) 1 38 := ⟨by decide +kernel, rfl⟩
theorem d21_38 : DAt B21 38 (.iconst 1) 1 39 := ⟨by decide +kernel, rfl⟩
theorem d21_39 : DAt B21 39 (.bastore) 1 40 := ⟨by decide +kernel, rfl⟩
theorem d21_40 : DAt B21 40 (.iconst 0) 1 41 := ⟨by decide +kernel, rfl⟩
theorem d21_41 : DAt B21 41 (.ireturn) 1 42 := ⟨by decide +kernel, rfl⟩
def B9 : Bdy := ((⟨"CausalStable", "copies", "(III)I"⟩ : MethodName), prog_1_method_23_code, 5, (some .int), ({ frames := 1, cells := 0, slots := 0, locals := 15 } : Room))
theorem d9_0 : DAt B9 0 (.aload_n 0) 1 1 := ⟨by decide +kernel, rfl⟩
theorem d9_1 : DAt B9 1 (.iload_n 1) 1 2 := ⟨by decide +kernel, rfl⟩
theorem d9_2 : DAt B9 2 (.iload_n 2) 1 3 := ⟨by decide +kernel, rfl⟩
theorem d9_3 : DAt B9 3 (.invokevirtual 52) 3 6 := ⟨by decide +kernel, rfl⟩
theorem d9_6 : DAt B9 6 (.ifCond .eq 11) 3 9 := ⟨by decide +kernel, rfl⟩
theorem d9_9 : DAt B9 9 (.aload_n 0) 1 10 := ⟨by decide +kernel, rfl⟩
theorem d9_10 : DAt B9 10 (.iload_n 3) 1 11 := ⟨by decide +kernel, rfl⟩
theorem d9_11 : DAt B9 11 (.invokevirtual 68) 3 14 := ⟨by decide +kernel, rfl⟩
theorem d9_14 : DAt B9 14 (.ifCond .ne 5) 3 17 := ⟨by decide +kernel, rfl⟩
theorem d9_17 : DAt B9 17 (.iconst (-1)) 1 18 := ⟨by decide +kernel, rfl⟩
theorem d9_18 : DAt B9 18 (.ireturn) 1 19 := ⟨by decide +kernel, rfl⟩
theorem d9_19 : DAt B9 19 (.aload_n 0) 1 20 := ⟨by decide +kernel, rfl⟩
theorem d9_20 : DAt B9 20 (.iload_n 1) 1 21 := ⟨by decide +kernel, rfl⟩
theorem d9_21 : DAt B9 21 (.iload_n 2) 1 22 := ⟨by decide +kernel, rfl⟩
theorem d9_22 : DAt B9 22 (.iload_n 3) 1 23 := ⟨by decide +kernel, rfl⟩
theorem d9_23 : DAt B9 23 (.invokevirtual 72) 3 26 := ⟨by decide +kernel, rfl⟩
theorem d9_26 : DAt B9 26 (.istore 4) 2 28 := ⟨by decide +kernel, rfl⟩
theorem d9_28 : DAt B9 28 (.aload_n 0) 1 29 := ⟨by decide +kernel, rfl⟩
theorem d9_29 : DAt B9 29 (.getfield 26) 3 32 := ⟨by decide +kernel, rfl⟩
theorem d9_32 : DAt B9 32 (.iload 4) 2 34 := ⟨by decide +kernel, rfl⟩
theorem d9_34 : DAt B9 34 (.iaload) 1 35 := ⟨by decide +kernel, rfl⟩
theorem d9_35 : DAt B9 35 (.ireturn) 1 36 := ⟨by decide +kernel, rfl⟩
def B8 : Bdy := ((⟨"CausalStableL6", "copySum", "(LCausalStable;)I"⟩ : MethodName), method_4_code, 4, (some .int), ({ frames := 2, cells := 0, slots := 0, locals := 31 } : Room))
theorem d8_0 : DAt B8 0 (.iconst 0) 1 1 := ⟨by decide +kernel, rfl⟩
theorem d8_1 : DAt B8 1 (.istore_n 1) 1 2 := ⟨by decide +kernel, rfl⟩
theorem d8_2 : DAt B8 2 (.iconst 0) 1 3 := ⟨by decide +kernel, rfl⟩
theorem d8_3 : DAt B8 3 (.istore_n 2) 1 4 := ⟨by decide +kernel, rfl⟩
theorem d8_4 : DAt B8 4 (.iload_n 2) 1 5 := ⟨by decide +kernel, rfl⟩
theorem d8_5 : DAt B8 5 (.bipush 36) 2 7 := ⟨by decide +kernel, rfl⟩
theorem d8_7 : DAt B8 7 (.if_icmp .ge 36) 3 10 := ⟨by decide +kernel, rfl⟩
theorem d8_10 : DAt B8 10 (.aload_n 0) 1 11 := ⟨by decide +kernel, rfl⟩
theorem d8_11 : DAt B8 11 (.iload_n 2) 1 12 := ⟨by decide +kernel, rfl⟩
theorem d8_12 : DAt B8 12 (.bipush 12) 2 14 := ⟨by decide +kernel, rfl⟩
theorem d8_14 : DAt B8 14 (.idiv) 1 15 := ⟨by decide +kernel, rfl⟩
theorem d8_15 : DAt B8 15 (.iload_n 2) 1 16 := ⟨by decide +kernel, rfl⟩
theorem d8_16 : DAt B8 16 (.iconst 3) 1 17 := ⟨by decide +kernel, rfl⟩
theorem d8_17 : DAt B8 17 (.idiv) 1 18 := ⟨by decide +kernel, rfl⟩
theorem d8_18 : DAt B8 18 (.iconst 4) 1 19 := ⟨by decide +kernel, rfl⟩
theorem d8_19 : DAt B8 19 (.irem) 1 20 := ⟨by decide +kernel, rfl⟩
theorem d8_20 : DAt B8 20 (.iconst 1) 1 21 := ⟨by decide +kernel, rfl⟩
theorem d8_21 : DAt B8 21 (.iadd) 1 22 := ⟨by decide +kernel, rfl⟩
theorem d8_22 : DAt B8 22 (.iload_n 2) 1 23 := ⟨by decide +kernel, rfl⟩
theorem d8_23 : DAt B8 23 (.iconst 3) 1 24 := ⟨by decide +kernel, rfl⟩
theorem d8_24 : DAt B8 24 (.irem) 1 25 := ⟨by decide +kernel, rfl⟩
theorem d8_25 : DAt B8 25 (.invokevirtual 73) 3 28 := ⟨by decide +kernel, rfl⟩
theorem d8_28 : DAt B8 28 (.istore_n 3) 1 29 := ⟨by decide +kernel, rfl⟩
theorem d8_29 : DAt B8 29 (.iload_n 3) 1 30 := ⟨by decide +kernel, rfl⟩
theorem d8_30 : DAt B8 30 (.ifCond .le 7) 3 33 := ⟨by decide +kernel, rfl⟩
theorem d8_33 : DAt B8 33 (.iload_n 1) 1 34 := ⟨by decide +kernel, rfl⟩
theorem d8_34 : DAt B8 34 (.iload_n 3) 1 35 := ⟨by decide +kernel, rfl⟩
theorem d8_35 : DAt B8 35 (.iadd) 1 36 := ⟨by decide +kernel, rfl⟩
theorem d8_36 : DAt B8 36 (.istore_n 1) 1 37 := ⟨by decide +kernel, rfl⟩
theorem d8_37 : DAt B8 37 (.iinc 2 1) 3 40 := ⟨by decide +kernel, rfl⟩
theorem d8_40 : DAt B8 40 (.goto (-36)) 3 43 := ⟨by decide +kernel, rfl⟩
theorem d8_43 : DAt B8 43 (.iload_n 1) 1 44 := ⟨by decide +kernel, rfl⟩
theorem d8_44 : DAt B8 44 (.ireturn) 1 45 := ⟨by decide +kernel, rfl⟩
def B13 : Bdy := ((⟨"CausalStable", "state", "(III)I"⟩ : MethodName), prog_1_method_24_code, 5, (some .int), ({ frames := 1, cells := 0, slots := 0, locals := 15 } : Room))
theorem d13_0 : DAt B13 0 (.aload_n 0) 1 1 := ⟨by decide +kernel, rfl⟩
theorem d13_1 : DAt B13 1 (.iload_n 1) 1 2 := ⟨by decide +kernel, rfl⟩
theorem d13_2 : DAt B13 2 (.invokevirtual 68) 3 5 := ⟨by decide +kernel, rfl⟩
theorem d13_5 : DAt B13 5 (.ifCond .eq 12) 3 8 := ⟨by decide +kernel, rfl⟩
theorem d13_8 : DAt B13 8 (.aload_n 0) 1 9 := ⟨by decide +kernel, rfl⟩
theorem d13_9 : DAt B13 9 (.iload_n 2) 1 10 := ⟨by decide +kernel, rfl⟩
theorem d13_10 : DAt B13 10 (.iload_n 3) 1 11 := ⟨by decide +kernel, rfl⟩
theorem d13_11 : DAt B13 11 (.invokevirtual 52) 3 14 := ⟨by decide +kernel, rfl⟩
theorem d13_14 : DAt B13 14 (.ifCond .ne 5) 3 17 := ⟨by decide +kernel, rfl⟩
theorem d13_17 : DAt B13 17 (.iconst (-1)) 1 18 := ⟨by decide +kernel, rfl⟩
theorem d13_18 : DAt B13 18 (.ireturn) 1 19 := ⟨by decide +kernel, rfl⟩
theorem d13_19 : DAt B13 19 (.aload_n 0) 1 20 := ⟨by decide +kernel, rfl⟩
theorem d13_20 : DAt B13 20 (.iload_n 1) 1 21 := ⟨by decide +kernel, rfl⟩
theorem d13_21 : DAt B13 21 (.iload_n 2) 1 22 := ⟨by decide +kernel, rfl⟩
theorem d13_22 : DAt B13 22 (.iload_n 3) 1 23 := ⟨by decide +kernel, rfl⟩
theorem d13_23 : DAt B13 23 (.invokevirtual 45) 3 26 := ⟨by decide +kernel, rfl⟩
theorem d13_26 : DAt B13 26 (.istore 4) 2 28 := ⟨by decide +kernel, rfl⟩
theorem d13_28 : DAt B13 28 (.aload_n 0) 1 29 := ⟨by decide +kernel, rfl⟩
theorem d13_29 : DAt B13 29 (.getfield 20) 3 32 := ⟨by decide +kernel, rfl⟩
theorem d13_32 : DAt B13 32 (.iload 4) 2 34 := ⟨by decide +kernel, rfl⟩
theorem d13_34 : DAt B13 34 (.iaload) 1 35 := ⟨by decide +kernel, rfl⟩
theorem d13_35 : DAt B13 35 (.ireturn) 1 36 := ⟨by decide +kernel, rfl⟩
def B12 : Bdy := ((⟨"CausalStableL6", "prunedCount", "(LCausalStable;)I"⟩ : MethodName), method_5_code, 3, (some .int), ({ frames := 2, cells := 0, slots := 0, locals := 31 } : Room))
theorem d12_0 : DAt B12 0 (.iconst 0) 1 1 := ⟨by decide +kernel, rfl⟩
theorem d12_1 : DAt B12 1 (.istore_n 1) 1 2 := ⟨by decide +kernel, rfl⟩
theorem d12_2 : DAt B12 2 (.iconst 0) 1 3 := ⟨by decide +kernel, rfl⟩
theorem d12_3 : DAt B12 3 (.istore_n 2) 1 4 := ⟨by decide +kernel, rfl⟩
theorem d12_4 : DAt B12 4 (.iload_n 2) 1 5 := ⟨by decide +kernel, rfl⟩
theorem d12_5 : DAt B12 5 (.bipush 36) 2 7 := ⟨by decide +kernel, rfl⟩
theorem d12_7 : DAt B12 7 (.if_icmp .ge 34) 3 10 := ⟨by decide +kernel, rfl⟩
theorem d12_10 : DAt B12 10 (.aload_n 0) 1 11 := ⟨by decide +kernel, rfl⟩
theorem d12_11 : DAt B12 11 (.iload_n 2) 1 12 := ⟨by decide +kernel, rfl⟩
theorem d12_12 : DAt B12 12 (.iconst 3) 1 13 := ⟨by decide +kernel, rfl⟩
theorem d12_13 : DAt B12 13 (.irem) 1 14 := ⟨by decide +kernel, rfl⟩
theorem d12_14 : DAt B12 14 (.iload_n 2) 1 15 := ⟨by decide +kernel, rfl⟩
theorem d12_15 : DAt B12 15 (.bipush 12) 2 17 := ⟨by decide +kernel, rfl⟩
theorem d12_17 : DAt B12 17 (.idiv) 1 18 := ⟨by decide +kernel, rfl⟩
theorem d12_18 : DAt B12 18 (.iload_n 2) 1 19 := ⟨by decide +kernel, rfl⟩
theorem d12_19 : DAt B12 19 (.iconst 3) 1 20 := ⟨by decide +kernel, rfl⟩
theorem d12_20 : DAt B12 20 (.idiv) 1 21 := ⟨by decide +kernel, rfl⟩
theorem d12_21 : DAt B12 21 (.iconst 4) 1 22 := ⟨by decide +kernel, rfl⟩
theorem d12_22 : DAt B12 22 (.irem) 1 23 := ⟨by decide +kernel, rfl⟩
theorem d12_23 : DAt B12 23 (.iconst 1) 1 24 := ⟨by decide +kernel, rfl⟩
theorem d12_24 : DAt B12 24 (.iadd) 1 25 := ⟨by decide +kernel, rfl⟩
theorem d12_25 : DAt B12 25 (.invokevirtual 76) 3 28 := ⟨by decide +kernel, rfl⟩
theorem d12_28 : DAt B12 28 (.iconst 3) 1 29 := ⟨by decide +kernel, rfl⟩
theorem d12_29 : DAt B12 29 (.if_icmp .ne 6) 3 32 := ⟨by decide +kernel, rfl⟩
theorem d12_32 : DAt B12 32 (.iinc 1 1) 3 35 := ⟨by decide +kernel, rfl⟩
theorem d12_35 : DAt B12 35 (.iinc 2 1) 3 38 := ⟨by decide +kernel, rfl⟩
theorem d12_38 : DAt B12 38 (.goto (-34)) 3 41 := ⟨by decide +kernel, rfl⟩
theorem d12_41 : DAt B12 41 (.iload_n 1) 1 42 := ⟨by decide +kernel, rfl⟩
theorem d12_42 : DAt B12 42 (.ireturn) 1 43 := ⟨by decide +kernel, rfl⟩
def B15 : Bdy := ((⟨"CausalStable", "sent", "(I)I"⟩ : MethodName), prog_1_method_21_code, 2, (some .int), ({ frames := 1, cells := 0, slots := 0, locals := 13 } : Room))
theorem d15_0 : DAt B15 0 (.aload_n 0) 1 1 := ⟨by decide +kernel, rfl⟩
theorem d15_1 : DAt B15 1 (.iload_n 1) 1 2 := ⟨by decide +kernel, rfl⟩
theorem d15_2 : DAt B15 2 (.invokevirtual 68) 3 5 := ⟨by decide +kernel, rfl⟩
theorem d15_5 : DAt B15 5 (.ifCond .ne 5) 3 8 := ⟨by decide +kernel, rfl⟩
theorem d15_8 : DAt B15 8 (.iconst (-1)) 1 9 := ⟨by decide +kernel, rfl⟩
theorem d15_9 : DAt B15 9 (.ireturn) 1 10 := ⟨by decide +kernel, rfl⟩
theorem d15_10 : DAt B15 10 (.aload_n 0) 1 11 := ⟨by decide +kernel, rfl⟩
theorem d15_11 : DAt B15 11 (.getfield 7) 3 14 := ⟨by decide +kernel, rfl⟩
theorem d15_14 : DAt B15 14 (.iload_n 1) 1 15 := ⟨by decide +kernel, rfl⟩
theorem d15_15 : DAt B15 15 (.iaload) 1 16 := ⟨by decide +kernel, rfl⟩
theorem d15_16 : DAt B15 16 (.ireturn) 1 17 := ⟨by decide +kernel, rfl⟩
def B16 : Bdy := ((⟨"CausalStable", "isCrashed", "(I)Z"⟩ : MethodName), prog_1_method_28_code, 2, (some .boolean), ({ frames := 1, cells := 0, slots := 0, locals := 13 } : Room))
theorem d16_0 : DAt B16 0 (.aload_n 0) 1 1 := ⟨by decide +kernel, rfl⟩
theorem d16_1 : DAt B16 1 (.iload_n 1) 1 2 := ⟨by decide +kernel, rfl⟩
theorem d16_2 : DAt B16 2 (.invokevirtual 68) 3 5 := ⟨by decide +kernel, rfl⟩
theorem d16_5 : DAt B16 5 (.ifCond .ne 5) 3 8 := ⟨by decide +kernel, rfl⟩
theorem d16_8 : DAt B16 8 (.iconst 0) 1 9 := ⟨by decide +kernel, rfl⟩
theorem d16_9 : DAt B16 9 (.ireturn) 1 10 := ⟨by decide +kernel, rfl⟩
theorem d16_10 : DAt B16 10 (.aload_n 0) 1 11 := ⟨by decide +kernel, rfl⟩
theorem d16_11 : DAt B16 11 (.getfield 13) 3 14 := ⟨by decide +kernel, rfl⟩
theorem d16_14 : DAt B16 14 (.iload_n 1) 1 15 := ⟨by decide +kernel, rfl⟩
theorem d16_15 : DAt B16 15 (.baload) 1 16 := ⟨by decide +kernel, rfl⟩
theorem d16_16 : DAt B16 16 (.ireturn) 1 17 := ⟨by decide +kernel, rfl⟩
def B17 : Bdy := ((⟨"CausalStable", "deliveredAt", "(II)I"⟩ : MethodName), prog_1_method_26_code, 3, (some .int), ({ frames := 1, cells := 0, slots := 0, locals := 13 } : Room))
theorem d17_0 : DAt B17 0 (.aload_n 0) 1 1 := ⟨by decide +kernel, rfl⟩
theorem d17_1 : DAt B17 1 (.iload_n 1) 1 2 := ⟨by decide +kernel, rfl⟩
theorem d17_2 : DAt B17 2 (.invokevirtual 68) 3 5 := ⟨by decide +kernel, rfl⟩
theorem d17_5 : DAt B17 5 (.ifCond .ne 5) 3 8 := ⟨by decide +kernel, rfl⟩
theorem d17_8 : DAt B17 8 (.iconst (-1)) 1 9 := ⟨by decide +kernel, rfl⟩
theorem d17_9 : DAt B17 9 (.ireturn) 1 10 := ⟨by decide +kernel, rfl⟩
theorem d17_10 : DAt B17 10 (.iload_n 2) 1 11 := ⟨by decide +kernel, rfl⟩
theorem d17_11 : DAt B17 11 (.ifCond .lt 19) 3 14 := ⟨by decide +kernel, rfl⟩
theorem d17_14 : DAt B17 14 (.iload_n 2) 1 15 := ⟨by decide +kernel, rfl⟩
theorem d17_15 : DAt B17 15 (.aload_n 0) 1 16 := ⟨by decide +kernel, rfl⟩
theorem d17_16 : DAt B17 16 (.getfield 35) 3 19 := ⟨by decide +kernel, rfl⟩
theorem d17_19 : DAt B17 19 (.iload_n 1) 1 20 := ⟨by decide +kernel, rfl⟩
theorem d17_20 : DAt B17 20 (.iaload) 1 21 := ⟨by decide +kernel, rfl⟩
theorem d17_21 : DAt B17 21 (.if_icmp .ge 9) 3 24 := ⟨by decide +kernel, rfl⟩
theorem d17_24 : DAt B17 24 (.iload_n 2) 1 25 := ⟨by decide +kernel, rfl⟩
theorem d17_25 : DAt B17 25 (.bipush 64) 2 27 := ⟨by decide +kernel, rfl⟩
theorem d17_27 : DAt B17 27 (.if_icmp .lt 5) 3 30 := ⟨by decide +kernel, rfl⟩
theorem d17_30 : DAt B17 30 (.iconst (-1)) 1 31 := ⟨by decide +kernel, rfl⟩
theorem d17_31 : DAt B17 31 (.ireturn) 1 32 := ⟨by decide +kernel, rfl⟩
theorem d17_32 : DAt B17 32 (.aload_n 0) 1 33 := ⟨by decide +kernel, rfl⟩
theorem d17_33 : DAt B17 33 (.getfield 32) 3 36 := ⟨by decide +kernel, rfl⟩
theorem d17_36 : DAt B17 36 (.iload_n 1) 1 37 := ⟨by decide +kernel, rfl⟩
theorem d17_37 : DAt B17 37 (.bipush 64) 2 39 := ⟨by decide +kernel, rfl⟩
theorem d17_39 : DAt B17 39 (.imul) 1 40 := ⟨by decide +kernel, rfl⟩
theorem d17_40 : DAt B17 40 (.iload_n 2) 1 41 := ⟨by decide +kernel, rfl⟩
theorem d17_41 : DAt B17 41 (.iadd) 1 42 := ⟨by decide +kernel, rfl⟩
theorem d17_42 : DAt B17 42 (.iaload) 1 43 := ⟨by decide +kernel, rfl⟩
theorem d17_43 : DAt B17 43 (.ireturn) 1 44 := ⟨by decide +kernel, rfl⟩
def B18 : Bdy := ((⟨"CausalStable", "delivered", "(II)I"⟩ : MethodName), prog_1_method_25_code, 3, (some .int), ({ frames := 1, cells := 0, slots := 0, locals := 13 } : Room))
theorem d18_0 : DAt B18 0 (.aload_n 0) 1 1 := ⟨by decide +kernel, rfl⟩
theorem d18_1 : DAt B18 1 (.iload_n 1) 1 2 := ⟨by decide +kernel, rfl⟩
theorem d18_2 : DAt B18 2 (.invokevirtual 68) 3 5 := ⟨by decide +kernel, rfl⟩
theorem d18_5 : DAt B18 5 (.ifCond .eq 11) 3 8 := ⟨by decide +kernel, rfl⟩
theorem d18_8 : DAt B18 8 (.aload_n 0) 1 9 := ⟨by decide +kernel, rfl⟩
theorem d18_9 : DAt B18 9 (.iload_n 2) 1 10 := ⟨by decide +kernel, rfl⟩
theorem d18_10 : DAt B18 10 (.invokevirtual 68) 3 13 := ⟨by decide +kernel, rfl⟩
theorem d18_13 : DAt B18 13 (.ifCond .ne 5) 3 16 := ⟨by decide +kernel, rfl⟩
theorem d18_16 : DAt B18 16 (.iconst (-1)) 1 17 := ⟨by decide +kernel, rfl⟩
theorem d18_17 : DAt B18 17 (.ireturn) 1 18 := ⟨by decide +kernel, rfl⟩
theorem d18_18 : DAt B18 18 (.aload_n 0) 1 19 := ⟨by decide +kernel, rfl⟩
theorem d18_19 : DAt B18 19 (.getfield 17) 3 22 := ⟨by decide +kernel, rfl⟩
theorem d18_22 : DAt B18 22 (.iload_n 1) 1 23 := ⟨by decide +kernel, rfl⟩
theorem d18_23 : DAt B18 23 (.bipush 8) 2 25 := ⟨by decide +kernel, rfl⟩
theorem d18_25 : DAt B18 25 (.imul) 1 26 := ⟨by decide +kernel, rfl⟩
theorem d18_26 : DAt B18 26 (.iload_n 2) 1 27 := ⟨by decide +kernel, rfl⟩
theorem d18_27 : DAt B18 27 (.iadd) 1 28 := ⟨by decide +kernel, rfl⟩
theorem d18_28 : DAt B18 28 (.iaload) 1 29 := ⟨by decide +kernel, rfl⟩
theorem d18_29 : DAt B18 29 (.ireturn) 1 30 := ⟨by decide +kernel, rfl⟩
def B19 : Bdy := ((⟨"CausalStable", "known", "(III)I"⟩ : MethodName), prog_1_method_27_code, 5, (some .int), ({ frames := 1, cells := 0, slots := 0, locals := 15 } : Room))
theorem d19_0 : DAt B19 0 (.aload_n 0) 1 1 := ⟨by decide +kernel, rfl⟩
theorem d19_1 : DAt B19 1 (.iload_n 1) 1 2 := ⟨by decide +kernel, rfl⟩
theorem d19_2 : DAt B19 2 (.invokevirtual 68) 3 5 := ⟨by decide +kernel, rfl⟩
theorem d19_5 : DAt B19 5 (.ifCond .eq 19) 3 8 := ⟨by decide +kernel, rfl⟩
theorem d19_8 : DAt B19 8 (.aload_n 0) 1 9 := ⟨by decide +kernel, rfl⟩
theorem d19_9 : DAt B19 9 (.iload_n 2) 1 10 := ⟨by decide +kernel, rfl⟩
theorem d19_10 : DAt B19 10 (.invokevirtual 68) 3 13 := ⟨by decide +kernel, rfl⟩
theorem d19_13 : DAt B19 13 (.ifCond .eq 11) 3 16 := ⟨by decide +kernel, rfl⟩
theorem d19_16 : DAt B19 16 (.aload_n 0) 1 17 := ⟨by decide +kernel, rfl⟩
theorem d19_17 : DAt B19 17 (.iload_n 3) 1 18 := ⟨by decide +kernel, rfl⟩
theorem d19_18 : DAt B19 18 (.invokevirtual 68) 3 21 := ⟨by decide +kernel, rfl⟩
theorem d19_21 : DAt B19 21 (.ifCond .ne 5) 3 24 := ⟨by decide +kernel, rfl⟩
theorem d19_24 : DAt B19 24 (.iconst (-1)) 1 25 := ⟨by decide +kernel, rfl⟩
theorem d19_25 : DAt B19 25 (.ireturn) 1 26 := ⟨by decide +kernel, rfl⟩
theorem d19_26 : DAt B19 26 (.aload_n 0) 1 27 := ⟨by decide +kernel, rfl⟩
theorem d19_27 : DAt B19 27 (.iload_n 1) 1 28 := ⟨by decide +kernel, rfl⟩
theorem d19_28 : DAt B19 28 (.iload_n 2) 1 29 := ⟨by decide +kernel, rfl⟩
theorem d19_29 : DAt B19 29 (.iload_n 3) 1 30 := ⟨by decide +kernel, rfl⟩
theorem d19_30 : DAt B19 30 (.invokevirtual 49) 3 33 := ⟨by decide +kernel, rfl⟩
theorem d19_33 : DAt B19 33 (.istore 4) 2 35 := ⟨by decide +kernel, rfl⟩
theorem d19_35 : DAt B19 35 (.aload_n 0) 1 36 := ⟨by decide +kernel, rfl⟩
theorem d19_36 : DAt B19 36 (.getfield 29) 3 39 := ⟨by decide +kernel, rfl⟩
theorem d19_39 : DAt B19 39 (.iload 4) 2 41 := ⟨by decide +kernel, rfl⟩
theorem d19_41 : DAt B19 41 (.iaload) 1 42 := ⟨by decide +kernel, rfl⟩
theorem d19_42 : DAt B19 42 (.ireturn) 1 43 := ⟨by decide +kernel, rfl⟩
def B14 : Bdy := ((⟨"CausalStableL6", "procOk", "(LCausalStable;IIIZ)Z"⟩ : MethodName), method_3_code, 10, (some .boolean), ({ frames := 2, cells := 0, slots := 0, locals := 31 } : Room))
theorem d14_0 : DAt B14 0 (.aload_n 0) 1 1 := ⟨by decide +kernel, rfl⟩
theorem d14_1 : DAt B14 1 (.iload_n 1) 1 2 := ⟨by decide +kernel, rfl⟩
theorem d14_2 : DAt B14 2 (.invokevirtual 57) 3 5 := ⟨by decide +kernel, rfl⟩
theorem d14_5 : DAt B14 5 (.iload_n 2) 1 6 := ⟨by decide +kernel, rfl⟩
theorem d14_6 : DAt B14 6 (.if_icmp .ne 13) 3 9 := ⟨by decide +kernel, rfl⟩
theorem d14_9 : DAt B14 9 (.aload_n 0) 1 10 := ⟨by decide +kernel, rfl⟩
theorem d14_10 : DAt B14 10 (.iload_n 1) 1 11 := ⟨by decide +kernel, rfl⟩
theorem d14_11 : DAt B14 11 (.invokevirtual 60) 3 14 := ⟨by decide +kernel, rfl⟩
theorem d14_14 : DAt B14 14 (.iload 4) 2 16 := ⟨by decide +kernel, rfl⟩
theorem d14_16 : DAt B14 16 (.if_icmp .eq 5) 3 19 := ⟨by decide +kernel, rfl⟩
theorem d14_19 : DAt B14 19 (.iconst 0) 1 20 := ⟨by decide +kernel, rfl⟩
theorem d14_20 : DAt B14 20 (.ireturn) 1 21 := ⟨by decide +kernel, rfl⟩
theorem d14_21 : DAt B14 21 (.aload_n 0) 1 22 := ⟨by decide +kernel, rfl⟩
theorem d14_22 : DAt B14 22 (.iload_n 1) 1 23 := ⟨by decide +kernel, rfl⟩
theorem d14_23 : DAt B14 23 (.iload_n 3) 1 24 := ⟨by decide +kernel, rfl⟩
theorem d14_24 : DAt B14 24 (.invokevirtual 64) 3 27 := ⟨by decide +kernel, rfl⟩
theorem d14_27 : DAt B14 27 (.iconst (-1)) 1 28 := ⟨by decide +kernel, rfl⟩
theorem d14_28 : DAt B14 28 (.if_icmp .eq 5) 3 31 := ⟨by decide +kernel, rfl⟩
theorem d14_31 : DAt B14 31 (.iconst 0) 1 32 := ⟨by decide +kernel, rfl⟩
theorem d14_32 : DAt B14 32 (.ireturn) 1 33 := ⟨by decide +kernel, rfl⟩
theorem d14_33 : DAt B14 33 (.iload_n 3) 1 34 := ⟨by decide +kernel, rfl⟩
theorem d14_34 : DAt B14 34 (.ifCond .le 17) 3 37 := ⟨by decide +kernel, rfl⟩
theorem d14_37 : DAt B14 37 (.aload_n 0) 1 38 := ⟨by decide +kernel, rfl⟩
theorem d14_38 : DAt B14 38 (.iload_n 1) 1 39 := ⟨by decide +kernel, rfl⟩
theorem d14_39 : DAt B14 39 (.iload_n 3) 1 40 := ⟨by decide +kernel, rfl⟩
theorem d14_40 : DAt B14 40 (.iconst 1) 1 41 := ⟨by decide +kernel, rfl⟩
theorem d14_41 : DAt B14 41 (.isub) 1 42 := ⟨by decide +kernel, rfl⟩
theorem d14_42 : DAt B14 42 (.invokevirtual 64) 3 45 := ⟨by decide +kernel, rfl⟩
theorem d14_45 : DAt B14 45 (.iconst 1) 1 46 := ⟨by decide +kernel, rfl⟩
theorem d14_46 : DAt B14 46 (.if_icmp .ge 5) 3 49 := ⟨by decide +kernel, rfl⟩
theorem d14_49 : DAt B14 49 (.iconst 0) 1 50 := ⟨by decide +kernel, rfl⟩
theorem d14_50 : DAt B14 50 (.ireturn) 1 51 := ⟨by decide +kernel, rfl⟩
theorem d14_51 : DAt B14 51 (.iconst 0) 1 52 := ⟨by decide +kernel, rfl⟩
theorem d14_52 : DAt B14 52 (.istore 5) 2 54 := ⟨by decide +kernel, rfl⟩
theorem d14_54 : DAt B14 54 (.iconst 0) 1 55 := ⟨by decide +kernel, rfl⟩
theorem d14_55 : DAt B14 55 (.istore 6) 2 57 := ⟨by decide +kernel, rfl⟩
theorem d14_57 : DAt B14 57 (.iload 6) 2 59 := ⟨by decide +kernel, rfl⟩
theorem d14_59 : DAt B14 59 (.iconst 3) 1 60 := ⟨by decide +kernel, rfl⟩
theorem d14_60 : DAt B14 60 (.if_icmp .ge 64) 3 63 := ⟨by decide +kernel, rfl⟩
theorem d14_63 : DAt B14 63 (.aload_n 0) 1 64 := ⟨by decide +kernel, rfl⟩
theorem d14_64 : DAt B14 64 (.iload_n 1) 1 65 := ⟨by decide +kernel, rfl⟩
theorem d14_65 : DAt B14 65 (.iload 6) 2 67 := ⟨by decide +kernel, rfl⟩
theorem d14_67 : DAt B14 67 (.invokevirtual 67) 3 70 := ⟨by decide +kernel, rfl⟩
theorem d14_70 : DAt B14 70 (.istore 7) 2 72 := ⟨by decide +kernel, rfl⟩
theorem d14_72 : DAt B14 72 (.aload_n 0) 1 73 := ⟨by decide +kernel, rfl⟩
theorem d14_73 : DAt B14 73 (.iload 6) 2 75 := ⟨by decide +kernel, rfl⟩
theorem d14_75 : DAt B14 75 (.invokevirtual 57) 3 78 := ⟨by decide +kernel, rfl⟩
theorem d14_78 : DAt B14 78 (.istore 8) 2 80 := ⟨by decide +kernel, rfl⟩
theorem d14_80 : DAt B14 80 (.aload_n 0) 1 81 := ⟨by decide +kernel, rfl⟩
theorem d14_81 : DAt B14 81 (.iload_n 1) 1 82 := ⟨by decide +kernel, rfl⟩
theorem d14_82 : DAt B14 82 (.iload_n 1) 1 83 := ⟨by decide +kernel, rfl⟩
theorem d14_83 : DAt B14 83 (.iload 6) 2 85 := ⟨by decide +kernel, rfl⟩
theorem d14_85 : DAt B14 85 (.invokevirtual 70) 3 88 := ⟨by decide +kernel, rfl⟩
theorem d14_88 : DAt B14 88 (.istore 9) 2 90 := ⟨by decide +kernel, rfl⟩
theorem d14_90 : DAt B14 90 (.iload 7) 2 92 := ⟨by decide +kernel, rfl⟩
theorem d14_92 : DAt B14 92 (.ifCond .lt 17) 3 95 := ⟨by decide +kernel, rfl⟩
theorem d14_95 : DAt B14 95 (.iload 7) 2 97 := ⟨by decide +kernel, rfl⟩
theorem d14_97 : DAt B14 97 (.iload 8) 2 99 := ⟨by decide +kernel, rfl⟩
theorem d14_99 : DAt B14 99 (.if_icmp .gt 10) 3 102 := ⟨by decide +kernel, rfl⟩
theorem d14_102 : DAt B14 102 (.iload 9) 2 104 := ⟨by decide +kernel, rfl⟩
theorem d14_104 : DAt B14 104 (.iload 7) 2 106 := ⟨by decide +kernel, rfl⟩
theorem d14_106 : DAt B14 106 (.if_icmp .eq 5) 3 109 := ⟨by decide +kernel, rfl⟩
theorem d14_109 : DAt B14 109 (.iconst 0) 1 110 := ⟨by decide +kernel, rfl⟩
theorem d14_110 : DAt B14 110 (.ireturn) 1 111 := ⟨by decide +kernel, rfl⟩
theorem d14_111 : DAt B14 111 (.iload 5) 2 113 := ⟨by decide +kernel, rfl⟩
theorem d14_113 : DAt B14 113 (.iload 7) 2 115 := ⟨by decide +kernel, rfl⟩
theorem d14_115 : DAt B14 115 (.iadd) 1 116 := ⟨by decide +kernel, rfl⟩
theorem d14_116 : DAt B14 116 (.istore 5) 2 118 := ⟨by decide +kernel, rfl⟩
theorem d14_118 : DAt B14 118 (.iinc 6 1) 3 121 := ⟨by decide +kernel, rfl⟩
theorem d14_121 : DAt B14 121 (.goto (-64)) 3 124 := ⟨by decide +kernel, rfl⟩
theorem d14_124 : DAt B14 124 (.iload 5) 2 126 := ⟨by decide +kernel, rfl⟩
theorem d14_126 : DAt B14 126 (.iload_n 3) 1 127 := ⟨by decide +kernel, rfl⟩
theorem d14_127 : DAt B14 127 (.if_icmp .ne 7) 3 130 := ⟨by decide +kernel, rfl⟩
theorem d14_130 : DAt B14 130 (.iconst 1) 1 131 := ⟨by decide +kernel, rfl⟩
theorem d14_131 : DAt B14 131 (.goto 4) 3 134 := ⟨by decide +kernel, rfl⟩
theorem d14_134 : DAt B14 134 (.iconst 0) 1 135 := ⟨by decide +kernel, rfl⟩
theorem d14_135 : DAt B14 135 (.ireturn) 1 136 := ⟨by decide +kernel, rfl⟩
def B0 : Bdy := (x, code, maxLocals, ret, room_1)
theorem d0_0 : DAt B0 0 (.new 7) 3 3 := ⟨at_0, rfl⟩
theorem d0_3 : DAt B0 3 (.dup) 1 4 := ⟨at_3, rfl⟩
theorem d0_4 : DAt B0 4 (.iconst 3) 1 5 := ⟨at_4, rfl⟩
theorem d0_5 : DAt B0 5 (.iconst 4) 1 6 := ⟨at_5, rfl⟩
theorem d0_6 : DAt B0 6 (.invokespecial 9) 3 9 := ⟨at_6, rfl⟩
theorem d0_9 : DAt B0 9 (.astore_n 1) 1 10 := ⟨at_9, rfl⟩
theorem d0_10 : DAt B0 10 (.lconst 0) 1 11 := ⟨at_10, rfl⟩
theorem d0_11 : DAt B0 11 (.lstore_n 2) 1 12 := ⟨at_11, rfl⟩
theorem d0_12 : DAt B0 12 (.lconst 0) 1 13 := ⟨at_12, rfl⟩
theorem d0_13 : DAt B0 13 (.lstore 4) 2 15 := ⟨at_13, rfl⟩
theorem d0_15 : DAt B0 15 (.iconst 0) 1 16 := ⟨at_15, rfl⟩
theorem d0_16 : DAt B0 16 (.istore 6) 2 18 := ⟨at_16, rfl⟩
theorem d0_18 : DAt B0 18 (.iconst 0) 1 19 := ⟨at_18, rfl⟩
theorem d0_19 : DAt B0 19 (.istore 7) 2 21 := ⟨at_19, rfl⟩
theorem d0_21 : DAt B0 21 (.iconst 0) 1 22 := ⟨at_21, rfl⟩
theorem d0_22 : DAt B0 22 (.istore 8) 2 24 := ⟨at_22, rfl⟩
theorem d0_24 : DAt B0 24 (.iconst 0) 1 25 := ⟨at_24, rfl⟩
theorem d0_25 : DAt B0 25 (.istore 9) 2 27 := ⟨at_25, rfl⟩
theorem d0_27 : DAt B0 27 (.iload 9) 2 29 := ⟨at_27, rfl⟩
theorem d0_29 : DAt B0 29 (.iconst 3) 1 30 := ⟨at_29, rfl⟩
theorem d0_30 : DAt B0 30 (.iadd) 1 31 := ⟨at_30, rfl⟩
theorem d0_31 : DAt B0 31 (.aload_n 0) 1 32 := ⟨at_31, rfl⟩
theorem d0_32 : DAt B0 32 (.arraylength) 1 33 := ⟨at_32, rfl⟩
theorem d0_33 : DAt B0 33 (.if_icmp .ge 443) 3 36 := ⟨at_33, rfl⟩
theorem d0_36 : DAt B0 36 (.aload_n 0) 1 37 := ⟨at_36, rfl⟩
theorem d0_37 : DAt B0 37 (.iload 9) 2 39 := ⟨at_37, rfl⟩
theorem d0_39 : DAt B0 39 (.iaload) 1 40 := ⟨at_39, rfl⟩
theorem d0_40 : DAt B0 40 (.bipush 15) 2 42 := ⟨at_40, rfl⟩
theorem d0_42 : DAt B0 42 (.iand) 1 43 := ⟨at_42, rfl⟩
theorem d0_43 : DAt B0 43 (.istore 10) 2 45 := ⟨at_43, rfl⟩
theorem d0_45 : DAt B0 45 (.aload_n 0) 1 46 := ⟨at_45, rfl⟩
theorem d0_46 : DAt B0 46 (.iload 9) 2 48 := ⟨at_46, rfl⟩
theorem d0_48 : DAt B0 48 (.iconst 1) 1 49 := ⟨at_48, rfl⟩
theorem d0_49 : DAt B0 49 (.iadd) 1 50 := ⟨at_49, rfl⟩
theorem d0_50 : DAt B0 50 (.iaload) 1 51 := ⟨at_50, rfl⟩
theorem d0_51 : DAt B0 51 (.istore 11) 2 53 := ⟨at_51, rfl⟩
theorem d0_53 : DAt B0 53 (.aload_n 0) 1 54 := ⟨at_53, rfl⟩
theorem d0_54 : DAt B0 54 (.iload 9) 2 56 := ⟨at_54, rfl⟩
theorem d0_56 : DAt B0 56 (.iconst 2) 1 57 := ⟨at_56, rfl⟩
theorem d0_57 : DAt B0 57 (.iadd) 1 58 := ⟨at_57, rfl⟩
theorem d0_58 : DAt B0 58 (.iaload) 1 59 := ⟨at_58, rfl⟩
theorem d0_59 : DAt B0 59 (.iconst 3) 1 60 := ⟨at_59, rfl⟩
theorem d0_60 : DAt B0 60 (.iand) 1 61 := ⟨at_60, rfl⟩
theorem d0_61 : DAt B0 61 (.istore 12) 2 63 := ⟨at_61, rfl⟩
theorem d0_63 : DAt B0 63 (.aload_n 0) 1 64 := ⟨at_63, rfl⟩
theorem d0_64 : DAt B0 64 (.iload 9) 2 66 := ⟨at_64, rfl⟩
theorem d0_66 : DAt B0 66 (.iconst 3) 1 67 := ⟨at_66, rfl⟩
theorem d0_67 : DAt B0 67 (.iadd) 1 68 := ⟨at_67, rfl⟩
theorem d0_68 : DAt B0 68 (.iaload) 1 69 := ⟨at_68, rfl⟩
theorem d0_69 : DAt B0 69 (.iconst 3) 1 70 := ⟨at_69, rfl⟩
theorem d0_70 : DAt B0 70 (.iand) 1 71 := ⟨at_70, rfl⟩
theorem d0_71 : DAt B0 71 (.iconst 1) 1 72 := ⟨at_71, rfl⟩
theorem d0_72 : DAt B0 72 (.iadd) 1 73 := ⟨at_72, rfl⟩
theorem d0_73 : DAt B0 73 (.istore 13) 2 75 := ⟨at_73, rfl⟩
theorem d0_75 : DAt B0 75 (.iload 11) 2 77 := ⟨at_75, rfl⟩
theorem d0_77 : DAt B0 77 (.iconst 3) 1 78 := ⟨at_77, rfl⟩
theorem d0_78 : DAt B0 78 (.iand) 1 79 := ⟨at_78, rfl⟩
theorem d0_79 : DAt B0 79 (.istore 14) 2 81 := ⟨at_79, rfl⟩
theorem d0_81 : DAt B0 81 (.iload 11) 2 83 := ⟨at_81, rfl⟩
theorem d0_83 : DAt B0 83 (.iconst 2) 1 84 := ⟨at_83, rfl⟩
theorem d0_84 : DAt B0 84 (.ishr) 1 85 := ⟨at_84, rfl⟩
theorem d0_85 : DAt B0 85 (.iconst 3) 1 86 := ⟨at_85, rfl⟩
theorem d0_86 : DAt B0 86 (.iand) 1 87 := ⟨at_86, rfl⟩
theorem d0_87 : DAt B0 87 (.istore 15) 2 89 := ⟨at_87, rfl⟩
theorem d0_89 : DAt B0 89 (.iload 10) 2 91 := ⟨at_89, rfl⟩
theorem d0_91 : DAt B0 91 (.iconst 4) 1 92 := ⟨at_91, rfl⟩
theorem d0_92 : DAt B0 92 (.if_icmp .ge 64) 3 95 := ⟨at_92, rfl⟩
theorem d0_95 : DAt B0 95 (.aload_n 1) 1 96 := ⟨at_95, rfl⟩
theorem d0_96 : DAt B0 96 (.iload 14) 2 98 := ⟨at_96, rfl⟩
theorem d0_98 : DAt B0 98 (.invokevirtual 12) 3 101 := ⟨at_98, rfl⟩
theorem d0_101 : DAt B0 101 (.istore 16) 2 103 := ⟨at_101, rfl⟩
theorem d0_103 : DAt B0 103 (.iload 16) 2 105 := ⟨at_103, rfl⟩
theorem d0_105 : DAt B0 105 (.ifCond .le 48) 3 108 := ⟨at_105, rfl⟩
theorem d0_108 : DAt B0 108 (.iload 16) 2 110 := ⟨at_108, rfl⟩
theorem d0_110 : DAt B0 110 (.i2l) 1 111 := ⟨at_110, rfl⟩
theorem d0_111 : DAt B0 111 (.lload_n 2) 1 112 := ⟨at_111, rfl⟩
theorem d0_112 : DAt B0 112 (.iconst 4) 1 113 := ⟨at_112, rfl⟩
theorem d0_113 : DAt B0 113 (.iload 14) 2 115 := ⟨at_113, rfl⟩
theorem d0_115 : DAt B0 115 (.imul) 1 116 := ⟨at_115, rfl⟩
theorem d0_116 : DAt B0 116 (.lshr) 1 117 := ⟨at_116, rfl⟩
theorem d0_117 : DAt B0 117 (.ldc2_w 16) 3 120 := ⟨at_117, rfl⟩
theorem d0_120 : DAt B0 120 (.land) 1 121 := ⟨at_120, rfl⟩
theorem d0_121 : DAt B0 121 (.lconst 1) 1 122 := ⟨at_121, rfl⟩
theorem d0_122 : DAt B0 122 (.ladd) 1 123 := ⟨at_122, rfl⟩
theorem d0_123 : DAt B0 123 (.lcmp) 1 124 := ⟨at_123, rfl⟩
theorem d0_124 : DAt B0 124 (.ifCond .eq 5) 3 127 := ⟨at_124, rfl⟩
theorem d0_127 : DAt B0 127 (.iconst 0) 1 128 := ⟨at_127, rfl⟩
theorem d0_128 : DAt B0 128 (.ireturn) 1 129 := ⟨at_128, rfl⟩
theorem d0_129 : DAt B0 129 (.lload_n 2) 1 130 := ⟨at_129, rfl⟩
theorem d0_130 : DAt B0 130 (.lconst 1) 1 131 := ⟨at_130, rfl⟩
theorem d0_131 : DAt B0 131 (.iconst 4) 1 132 := ⟨at_131, rfl⟩
theorem d0_132 : DAt B0 132 (.iload 14) 2 134 := ⟨at_132, rfl⟩
theorem d0_134 : DAt B0 134 (.imul) 1 135 := ⟨at_134, rfl⟩
theorem d0_135 : DAt B0 135 (.lshl) 1 136 := ⟨at_135, rfl⟩
theorem d0_136 : DAt B0 136 (.ladd) 1 137 := ⟨at_136, rfl⟩
theorem d0_137 : DAt B0 137 (.lstore_n 2) 1 138 := ⟨at_137, rfl⟩
theorem d0_138 : DAt B0 138 (.lload 4) 2 140 := ⟨at_138, rfl⟩
theorem d0_140 : DAt B0 140 (.lconst 1) 1 141 := ⟨at_140, rfl⟩
theorem d0_141 : DAt B0 141 (.bipush 8) 2 143 := ⟨at_141, rfl⟩
theorem d0_143 : DAt B0 143 (.iload 14) 2 145 := ⟨at_143, rfl⟩
theorem d0_145 : DAt B0 145 (.imul) 1 146 := ⟨at_145, rfl⟩
theorem d0_146 : DAt B0 146 (.lshl) 1 147 := ⟨at_146, rfl⟩
theorem d0_147 : DAt B0 147 (.ladd) 1 148 := ⟨at_147, rfl⟩
theorem d0_148 : DAt B0 148 (.lstore 4) 2 150 := ⟨at_148, rfl⟩
theorem d0_150 : DAt B0 150 (.iinc 6 2) 3 153 := ⟨at_150, rfl⟩
theorem d0_153 : DAt B0 153 (.goto 214) 3 156 := ⟨at_153, rfl⟩
theorem d0_156 : DAt B0 156 (.iload 10) 2 158 := ⟨at_156, rfl⟩
theorem d0_158 : DAt B0 158 (.bipush 8) 2 160 := ⟨at_158, rfl⟩
theorem d0_160 : DAt B0 160 (.if_icmp .lt 10) 3 163 := ⟨at_160, rfl⟩
theorem d0_163 : DAt B0 163 (.iload 10) 2 165 := ⟨at_163, rfl⟩
theorem d0_165 : DAt B0 165 (.bipush 15) 2 167 := ⟨at_165, rfl⟩
theorem d0_167 : DAt B0 167 (.if_icmp .ne 53) 3 170 := ⟨at_167, rfl⟩
theorem d0_170 : DAt B0 170 (.aload_n 1) 1 171 := ⟨at_170, rfl⟩
theorem d0_171 : DAt B0 171 (.iload 14) 2 173 := ⟨at_171, rfl⟩
theorem d0_173 : DAt B0 173 (.iload 12) 2 175 := ⟨at_173, rfl⟩
theorem d0_175 : DAt B0 175 (.iload 13) 2 177 := ⟨at_175, rfl⟩
theorem d0_177 : DAt B0 177 (.invokevirtual 18) 3 180 := ⟨at_177, rfl⟩
theorem d0_180 : DAt B0 180 (.istore 16) 2 182 := ⟨at_180, rfl⟩
theorem d0_182 : DAt B0 182 (.iload 16) 2 184 := ⟨at_182, rfl⟩
theorem d0_184 : DAt B0 184 (.ifCond .lt 23) 3 187 := ⟨at_184, rfl⟩
theorem d0_187 : DAt B0 187 (.lload 4) 2 189 := ⟨at_187, rfl⟩
theorem d0_189 : DAt B0 189 (.iload 16) 2 191 := ⟨at_189, rfl⟩
theorem d0_191 : DAt B0 191 (.i2l) 1 192 := ⟨at_191, rfl⟩
theorem d0_192 : DAt B0 192 (.bipush 8) 2 194 := ⟨at_192, rfl⟩
theorem d0_194 : DAt B0 194 (.iload 14) 2 196 := ⟨at_194, rfl⟩
theorem d0_196 : DAt B0 196 (.imul) 1 197 := ⟨at_196, rfl⟩
theorem d0_197 : DAt B0 197 (.lshl) 1 198 := ⟨at_197, rfl⟩
theorem d0_198 : DAt B0 198 (.ladd) 1 199 := ⟨at_198, rfl⟩
theorem d0_199 : DAt B0 199 (.lstore 4) 2 201 := ⟨at_199, rfl⟩
theorem d0_201 : DAt B0 201 (.iinc 6 (-1)) 3 204 := ⟨at_201, rfl⟩
theorem d0_204 : DAt B0 204 (.goto 13) 3 207 := ⟨at_204, rfl⟩
theorem d0_207 : DAt B0 207 (.iload 16) 2 209 := ⟨at_207, rfl⟩
theorem d0_209 : DAt B0 209 (.bipush (-5)) 2 211 := ⟨at_209, rfl⟩
theorem d0_211 : DAt B0 211 (.if_icmp .ne 6) 3 214 := ⟨at_211, rfl⟩
theorem d0_214 : DAt B0 214 (.iinc 6 (-1)) 3 217 := ⟨at_214, rfl⟩
theorem d0_217 : DAt B0 217 (.goto 150) 3 220 := ⟨at_217, rfl⟩
theorem d0_220 : DAt B0 220 (.iload 10) 2 222 := ⟨at_220, rfl⟩
theorem d0_222 : DAt B0 222 (.bipush 8) 2 224 := ⟨at_222, rfl⟩
theorem d0_224 : DAt B0 224 (.if_icmp .ne 22) 3 227 := ⟨at_224, rfl⟩
theorem d0_227 : DAt B0 227 (.aload_n 1) 1 228 := ⟨at_227, rfl⟩
theorem d0_228 : DAt B0 228 (.iload 12) 2 230 := ⟨at_228, rfl⟩
theorem d0_230 : DAt B0 230 (.iload 13) 2 232 := ⟨at_230, rfl⟩
theorem d0_232 : DAt B0 232 (.iload 14) 2 234 := ⟨at_232, rfl⟩
theorem d0_234 : DAt B0 234 (.invokevirtual 22) 3 237 := ⟨at_234, rfl⟩
theorem d0_237 : DAt B0 237 (.ifCond .le 130) 3 240 := ⟨at_237, rfl⟩
theorem d0_240 : DAt B0 240 (.iinc 6 1) 3 243 := ⟨at_240, rfl⟩
theorem d0_243 : DAt B0 243 (.goto 124) 3 246 := ⟨at_243, rfl⟩
theorem d0_246 : DAt B0 246 (.iload 10) 2 248 := ⟨at_246, rfl⟩
theorem d0_248 : DAt B0 248 (.bipush 9) 2 250 := ⟨at_248, rfl⟩
theorem d0_250 : DAt B0 250 (.if_icmp .ne 22) 3 253 := ⟨at_250, rfl⟩
theorem d0_253 : DAt B0 253 (.aload_n 1) 1 254 := ⟨at_253, rfl⟩
theorem d0_254 : DAt B0 254 (.iload 12) 2 256 := ⟨at_254, rfl⟩
theorem d0_256 : DAt B0 256 (.iload 13) 2 258 := ⟨at_256, rfl⟩
theorem d0_258 : DAt B0 258 (.iload 14) 2 260 := ⟨at_258, rfl⟩
theorem d0_260 : DAt B0 260 (.invokevirtual 25) 3 263 := ⟨at_260, rfl⟩
theorem d0_263 : DAt B0 263 (.ifCond .lt 104) 3 266 := ⟨at_263, rfl⟩
theorem d0_266 : DAt B0 266 (.iinc 6 (-1)) 3 269 := ⟨at_266, rfl⟩
theorem d0_269 : DAt B0 269 (.goto 98) 3 272 := ⟨at_269, rfl⟩
theorem d0_272 : DAt B0 272 (.iload 10) 2 274 := ⟨at_272, rfl⟩
theorem d0_274 : DAt B0 274 (.bipush 12) 2 276 := ⟨at_274, rfl⟩
theorem d0_276 : DAt B0 276 (.if_icmp .ge 24) 3 279 := ⟨at_276, rfl⟩
theorem d0_279 : DAt B0 279 (.aload_n 1) 1 280 := ⟨at_279, rfl⟩
theorem d0_280 : DAt B0 280 (.iload 15) 2 282 := ⟨at_280, rfl⟩
theorem d0_282 : DAt B0 282 (.iload 14) 2 284 := ⟨at_282, rfl⟩
theorem d0_284 : DAt B0 284 (.iload 12) 2 286 := ⟨at_284, rfl⟩
theorem d0_286 : DAt B0 286 (.iload 13) 2 288 := ⟨at_286, rfl⟩
theorem d0_288 : DAt B0 288 (.invokevirtual 28) 3 291 := ⟨at_288, rfl⟩
theorem d0_291 : DAt B0 291 (.ifCond .ne 76) 3 294 := ⟨at_291, rfl⟩
theorem d0_294 : DAt B0 294 (.iinc 6 1) 3 297 := ⟨at_294, rfl⟩
theorem d0_297 : DAt B0 297 (.goto 70) 3 300 := ⟨at_297, rfl⟩
theorem d0_300 : DAt B0 300 (.iload 10) 2 302 := ⟨at_300, rfl⟩
theorem d0_302 : DAt B0 302 (.bipush 12) 2 304 := ⟨at_302, rfl⟩
theorem d0_304 : DAt B0 304 (.if_icmp .ne 15) 3 307 := ⟨at_304, rfl⟩
theorem d0_307 : DAt B0 307 (.aload_n 1) 1 308 := ⟨at_307, rfl⟩
theorem d0_308 : DAt B0 308 (.iload 15) 2 310 := ⟨at_308, rfl⟩
theorem d0_310 : DAt B0 310 (.iload 14) 2 312 := ⟨at_310, rfl⟩
theorem d0_312 : DAt B0 312 (.invokevirtual 32) 3 315 := ⟨at_312, rfl⟩
theorem d0_315 : DAt B0 315 (.pop) 1 316 := ⟨at_315, rfl⟩
theorem d0_316 : DAt B0 316 (.goto 51) 3 319 := ⟨at_316, rfl⟩
theorem d0_319 : DAt B0 319 (.iload 10) 2 321 := ⟨at_319, rfl⟩
theorem d0_321 : DAt B0 321 (.bipush 13) 2 323 := ⟨at_321, rfl⟩
theorem d0_323 : DAt B0 323 (.if_icmp .ne 26) 3 326 := ⟨at_323, rfl⟩
theorem d0_326 : DAt B0 326 (.aload_n 1) 1 327 := ⟨at_326, rfl⟩
theorem d0_327 : DAt B0 327 (.iload 14) 2 329 := ⟨at_327, rfl⟩
theorem d0_329 : DAt B0 329 (.invokevirtual 36) 3 332 := ⟨at_329, rfl⟩
theorem d0_332 : DAt B0 332 (.istore 16) 2 334 := ⟨at_332, rfl⟩
theorem d0_334 : DAt B0 334 (.iload 16) 2 336 := ⟨at_334, rfl⟩
theorem d0_336 : DAt B0 336 (.ifCond .lt 10) 3 339 := ⟨at_336, rfl⟩
theorem d0_339 : DAt B0 339 (.iload 7) 2 341 := ⟨at_339, rfl⟩
theorem d0_341 : DAt B0 341 (.iload 16) 2 343 := ⟨at_341, rfl⟩
theorem d0_343 : DAt B0 343 (.iadd) 1 344 := ⟨at_343, rfl⟩
theorem d0_344 : DAt B0 344 (.istore 7) 2 346 := ⟨at_344, rfl⟩
theorem d0_346 : DAt B0 346 (.goto 21) 3 349 := ⟨at_346, rfl⟩
theorem d0_349 : DAt B0 349 (.aload_n 1) 1 350 := ⟨at_349, rfl⟩
theorem d0_350 : DAt B0 350 (.iload 14) 2 352 := ⟨at_350, rfl⟩
theorem d0_352 : DAt B0 352 (.invokevirtual 39) 3 355 := ⟨at_352, rfl⟩
theorem d0_355 : DAt B0 355 (.ifCond .ne 12) 3 358 := ⟨at_355, rfl⟩
theorem d0_358 : DAt B0 358 (.iload 8) 2 360 := ⟨at_358, rfl⟩
theorem d0_360 : DAt B0 360 (.iconst 1) 1 361 := ⟨at_360, rfl⟩
theorem d0_361 : DAt B0 361 (.iload 14) 2 363 := ⟨at_361, rfl⟩
theorem d0_363 : DAt B0 363 (.ishl) 1 364 := ⟨at_363, rfl⟩
theorem d0_364 : DAt B0 364 (.ior) 1 365 := ⟨at_364, rfl⟩
theorem d0_365 : DAt B0 365 (.istore 8) 2 367 := ⟨at_365, rfl⟩
theorem d0_367 : DAt B0 367 (.iload 8) 2 369 := ⟨at_367, rfl⟩
theorem d0_369 : DAt B0 369 (.bipush 7) 2 371 := ⟨at_369, rfl⟩
theorem d0_371 : DAt B0 371 (.if_icmp .ne 5) 3 374 := ⟨at_371, rfl⟩
theorem d0_374 : DAt B0 374 (.iconst 0) 1 375 := ⟨at_374, rfl⟩
theorem d0_375 : DAt B0 375 (.ireturn) 1 376 := ⟨at_375, rfl⟩
theorem d0_376 : DAt B0 376 (.aload_n 1) 1 377 := ⟨at_376, rfl⟩
theorem d0_377 : DAt B0 377 (.invokestatic 42) 3 380 := ⟨at_377, rfl⟩
theorem d0_380 : DAt B0 380 (.iload 6) 2 382 := ⟨at_380, rfl⟩
theorem d0_382 : DAt B0 382 (.if_icmp .ne 12) 3 385 := ⟨at_382, rfl⟩
theorem d0_385 : DAt B0 385 (.aload_n 1) 1 386 := ⟨at_385, rfl⟩
theorem d0_386 : DAt B0 386 (.invokestatic 48) 3 389 := ⟨at_386, rfl⟩
theorem d0_389 : DAt B0 389 (.iload 7) 2 391 := ⟨at_389, rfl⟩
theorem d0_391 : DAt B0 391 (.if_icmp .eq 5) 3 394 := ⟨at_391, rfl⟩
theorem d0_394 : DAt B0 394 (.iconst 0) 1 395 := ⟨at_394, rfl⟩
theorem d0_395 : DAt B0 395 (.ireturn) 1 396 := ⟨at_395, rfl⟩
theorem d0_396 : DAt B0 396 (.iconst 0) 1 397 := ⟨at_396, rfl⟩
theorem d0_397 : DAt B0 397 (.istore 16) 2 399 := ⟨at_397, rfl⟩
theorem d0_399 : DAt B0 399 (.iload 16) 2 401 := ⟨at_399, rfl⟩
theorem d0_401 : DAt B0 401 (.iconst 3) 1 402 := ⟨at_401, rfl⟩
theorem d0_402 : DAt B0 402 (.if_icmp .ge 68) 3 405 := ⟨at_402, rfl⟩
theorem d0_405 : DAt B0 405 (.lload_n 2) 1 406 := ⟨at_405, rfl⟩
theorem d0_406 : DAt B0 406 (.iconst 4) 1 407 := ⟨at_406, rfl⟩
theorem d0_407 : DAt B0 407 (.iload 16) 2 409 := ⟨at_407, rfl⟩
theorem d0_409 : DAt B0 409 (.imul) 1 410 := ⟨at_409, rfl⟩
theorem d0_410 : DAt B0 410 (.lshr) 1 411 := ⟨at_410, rfl⟩
theorem d0_411 : DAt B0 411 (.ldc2_w 16) 3 414 := ⟨at_411, rfl⟩
theorem d0_414 : DAt B0 414 (.land) 1 415 := ⟨at_414, rfl⟩
theorem d0_415 : DAt B0 415 (.l2i) 1 416 := ⟨at_415, rfl⟩
theorem d0_416 : DAt B0 416 (.istore 17) 2 418 := ⟨at_416, rfl⟩
theorem d0_418 : DAt B0 418 (.lload 4) 2 420 := ⟨at_418, rfl⟩
theorem d0_420 : DAt B0 420 (.bipush 8) 2 422 := ⟨at_420, rfl⟩
theorem d0_422 : DAt B0 422 (.iload 16) 2 424 := ⟨at_422, rfl⟩
theorem d0_424 : DAt B0 424 (.imul) 1 425 := ⟨at_424, rfl⟩
theorem d0_425 : DAt B0 425 (.lshr) 1 426 := ⟨at_425, rfl⟩
theorem d0_426 : DAt B0 426 (.ldc2_w 51) 3 429 := ⟨at_426, rfl⟩
theorem d0_429 : DAt B0 429 (.land) 1 430 := ⟨at_429, rfl⟩
theorem d0_430 : DAt B0 430 (.l2i) 1 431 := ⟨at_430, rfl⟩
theorem d0_431 : DAt B0 431 (.istore 18) 2 433 := ⟨at_431, rfl⟩
theorem d0_433 : DAt B0 433 (.aload_n 1) 1 434 := ⟨at_433, rfl⟩
theorem d0_434 : DAt B0 434 (.iload 16) 2 436 := ⟨at_434, rfl⟩
theorem d0_436 : DAt B0 436 (.iload 17) 2 438 := ⟨at_436, rfl⟩
theorem d0_438 : DAt B0 438 (.iload 18) 2 440 := ⟨at_438, rfl⟩
theorem d0_440 : DAt B0 440 (.iload 8) 2 442 := ⟨at_440, rfl⟩
theorem d0_442 : DAt B0 442 (.iload 16) 2 444 := ⟨at_442, rfl⟩
theorem d0_444 : DAt B0 444 (.ishr) 1 445 := ⟨at_444, rfl⟩
theorem d0_445 : DAt B0 445 (.iconst 1) 1 446 := ⟨at_445, rfl⟩
theorem d0_446 : DAt B0 446 (.iand) 1 447 := ⟨at_446, rfl⟩
theorem d0_447 : DAt B0 447 (.iconst 1) 1 448 := ⟨at_447, rfl⟩
theorem d0_448 : DAt B0 448 (.if_icmp .ne 7) 3 451 := ⟨at_448, rfl⟩
theorem d0_451 : DAt B0 451 (.iconst 1) 1 452 := ⟨at_451, rfl⟩
theorem d0_452 : DAt B0 452 (.goto 4) 3 455 := ⟨at_452, rfl⟩
theorem d0_455 : DAt B0 455 (.iconst 0) 1 456 := ⟨at_455, rfl⟩
theorem d0_456 : DAt B0 456 (.invokestatic 53) 3 459 := ⟨at_456, rfl⟩
theorem d0_459 : DAt B0 459 (.ifCond .ne 5) 3 462 := ⟨at_459, rfl⟩
theorem d0_462 : DAt B0 462 (.iconst 0) 1 463 := ⟨at_462, rfl⟩
theorem d0_463 : DAt B0 463 (.ireturn) 1 464 := ⟨at_463, rfl⟩
theorem d0_464 : DAt B0 464 (.iinc 16 1) 3 467 := ⟨at_464, rfl⟩
theorem d0_467 : DAt B0 467 (.goto (-68)) 3 470 := ⟨at_467, rfl⟩
theorem d0_470 : DAt B0 470 (.iinc 9 4) 3 473 := ⟨at_470, rfl⟩
theorem d0_473 : DAt B0 473 (.goto (-446)) 3 476 := ⟨at_473, rfl⟩
theorem d0_476 : DAt B0 476 (.iconst 1) 1 477 := ⟨at_476, rfl⟩
theorem d0_477 : DAt B0 477 (.ireturn) 1 478 := ⟨at_477, rfl⟩
theorem ar1 : arity B1 2 := ⟨[.int, .int], none, by decide +kernel, rfl⟩
theorem ar2 : arity B2 1 := ⟨[.int], some .int, by decide +kernel, rfl⟩
theorem ar3 : arity B3 1 := ⟨[.int], some .boolean, by decide +kernel, rfl⟩
theorem ar4 : arity B4 2 := ⟨[.int, .int], some .int, by decide +kernel, rfl⟩
theorem ar5 : arity B5 3 := ⟨[.int, .int, .int], none, by decide +kernel, rfl⟩
theorem ar6 : arity B6 3 := ⟨[.int, .int, .int], some .int, by decide +kernel, rfl⟩
theorem ar7 : arity B7 3 := ⟨[.int, .int, .int], some .int, by decide +kernel, rfl⟩
theorem ar8 : arity B8 1 := ⟨[(.object "CausalStable")], some .int, by decide +kernel, rfl⟩
theorem ar9 : arity B9 3 := ⟨[.int, .int, .int], some .int, by decide +kernel, rfl⟩
theorem ar10 : arity B10 2 := ⟨[.int, .int], some .boolean, by decide +kernel, rfl⟩
theorem ar11 : arity B11 3 := ⟨[.int, .int, .int], some .int, by decide +kernel, rfl⟩
theorem ar12 : arity B12 1 := ⟨[(.object "CausalStable")], some .int, by decide +kernel, rfl⟩
theorem ar13 : arity B13 3 := ⟨[.int, .int, .int], some .int, by decide +kernel, rfl⟩
theorem ar14 : arity B14 5 := ⟨[(.object "CausalStable"), .int, .int, .int, .boolean], some .boolean, by decide +kernel, rfl⟩
theorem ar15 : arity B15 1 := ⟨[.int], some .int, by decide +kernel, rfl⟩
theorem ar16 : arity B16 1 := ⟨[.int], some .boolean, by decide +kernel, rfl⟩
theorem ar17 : arity B17 2 := ⟨[.int, .int], some .int, by decide +kernel, rfl⟩
theorem ar18 : arity B18 2 := ⟨[.int, .int], some .int, by decide +kernel, rfl⟩
theorem ar19 : arity B19 3 := ⟨[.int, .int, .int], some .int, by decide +kernel, rfl⟩
theorem ar20 : arity B20 3 := ⟨[.int, .int, .int], some .int, by decide +kernel, rfl⟩
theorem ar21 : arity B21 1 := ⟨[.int], some .int, by decide +kernel, rfl⟩
theorem ar22 : arity B22 1 := ⟨[.int], some .boolean, by decide +kernel, rfl⟩
theorem ar23 : arity B23 3 := ⟨[.int, .int, .int], some .int, by decide +kernel, rfl⟩
theorem ar24 : arity B24 1 := ⟨[.int], some .int, by decide +kernel, rfl⟩
theorem ar25 : arity B25 3 := ⟨[.int, .int, .int], some .int, by decide +kernel, rfl⟩
theorem ar26 : arity B26 4 := ⟨[.int, .int, .int, .int], some .int, by decide +kernel, rfl⟩
theorem ar27 : arity B27 2 := ⟨[.int, .int], some .int, by decide +kernel, rfl⟩
theorem ar28 : arity B28 3 := ⟨[.int, .int, .int], some .boolean, by decide +kernel, rfl⟩
theorem ar29 : arity B29 1 := ⟨[.int], some .int, by decide +kernel, rfl⟩
theorem ar30 : arity B30 3 := ⟨[.int, .int, .int], some .boolean, by decide +kernel, rfl⟩
theorem cw1 : code_w B1 := ⟨mem1 5 rfl, mem1 2 rfl, by decide⟩
theorem cw2 : code_w B2 := ⟨mem1 37 rfl, mem1 2 rfl, by decide⟩
theorem cw3 : code_w B3 := ⟨mem1 41 rfl, mem1 2 rfl, by decide⟩
theorem cw4 : code_w B4 := ⟨mem1 45 rfl, mem1 2 rfl, by decide⟩
theorem cw5 : code_w B5 := ⟨mem1 49 rfl, mem1 2 rfl, by decide⟩
theorem cw6 : code_w B6 := ⟨mem1 53 rfl, mem1 2 rfl, by decide⟩
theorem cw7 : code_w B7 := ⟨mem1 57 rfl, mem1 2 rfl, by decide⟩
theorem cw8 : code_w B8 := ⟨mem1 62 rfl, mem1 61 rfl, by decide⟩
theorem cw9 : code_w B9 := ⟨mem1 67 rfl, mem1 2 rfl, by decide⟩
theorem cw10 : code_w B10 := ⟨mem1 71 rfl, mem1 2 rfl, by decide⟩
theorem cw11 : code_w B11 := ⟨mem1 75 rfl, mem1 2 rfl, by decide⟩
theorem cw12 : code_w B12 := ⟨mem1 78 rfl, mem1 61 rfl, by decide⟩
theorem cw13 : code_w B13 := ⟨mem1 83 rfl, mem1 2 rfl, by decide⟩
theorem cw14 : code_w B14 := ⟨mem1 87 rfl, mem1 61 rfl, by decide⟩
theorem cw15 : code_w B15 := ⟨mem1 92 rfl, mem1 2 rfl, by decide⟩
theorem cw16 : code_w B16 := ⟨mem1 97 rfl, mem1 2 rfl, by decide⟩
theorem cw17 : code_w B17 := ⟨mem1 102 rfl, mem1 2 rfl, by decide⟩
theorem cw18 : code_w B18 := ⟨mem1 107 rfl, mem1 2 rfl, by decide⟩
theorem cw19 : code_w B19 := ⟨mem1 112 rfl, mem1 2 rfl, by decide⟩
theorem cw20 : code_w B20 := ⟨mem1 117 rfl, mem1 2 rfl, by decide⟩
theorem cw21 : code_w B21 := ⟨mem1 122 rfl, mem1 2 rfl, by decide⟩
theorem cw22 : code_w B22 := ⟨mem1 126 rfl, mem1 2 rfl, by decide⟩
theorem cw23 : code_w B23 := ⟨mem1 131 rfl, mem1 2 rfl, by decide⟩
theorem cw24 : code_w B24 := ⟨mem1 136 rfl, mem1 2 rfl, by decide⟩
theorem cw25 : code_w B25 := ⟨mem1 141 rfl, mem1 2 rfl, by decide⟩
theorem cw26 : code_w B26 := ⟨mem1 146 rfl, mem1 2 rfl, by decide⟩
theorem cw27 : code_w B27 := ⟨mem1 151 rfl, mem1 2 rfl, by decide⟩
theorem cw28 : code_w B28 := ⟨mem1 155 rfl, mem1 2 rfl, by decide⟩
theorem cw29 : code_w B29 := ⟨mem1 159 rfl, mem1 2 rfl, by decide⟩
theorem cw30 : code_w B30 := ⟨mem1 163 rfl, mem1 2 rfl, by decide⟩
theorem rk0_2_0 : room_ok B0 B2 0 := by decide
theorem rk0_8_0 : room_ok B0 B8 0 := by decide
theorem rk0_12_0 : room_ok B0 B12 0 := by decide
theorem rk0_14_0 : room_ok B0 B14 0 := by decide
theorem rk0_20_0 : room_ok B0 B20 0 := by decide
theorem rk0_21_0 : room_ok B0 B21 0 := by decide
theorem rk0_23_0 : room_ok B0 B23 0 := by decide
theorem rk0_24_0 : room_ok B0 B24 0 := by decide
theorem rk0_25_0 : room_ok B0 B25 0 := by decide
theorem rk0_26_0 : room_ok B0 B26 0 := by decide
theorem rk0_27_0 : room_ok B0 B27 0 := by decide
theorem rk2_3_0 : room_ok B2 B3 0 := by decide
theorem rk2_4_0 : room_ok B2 B4 0 := by decide
theorem rk2_5_0 : room_ok B2 B5 0 := by decide
theorem rk5_6_0 : room_ok B5 B6 0 := by decide
theorem rk5_7_0 : room_ok B5 B7 0 := by decide
theorem rk8_9_0 : room_ok B8 B9 0 := by decide
theorem rk9_3_0 : room_ok B9 B3 0 := by decide
theorem rk9_10_0 : room_ok B9 B10 0 := by decide
theorem rk9_11_0 : room_ok B9 B11 0 := by decide
theorem rk12_13_0 : room_ok B12 B13 0 := by decide
theorem rk13_3_0 : room_ok B13 B3 0 := by decide
theorem rk13_6_0 : room_ok B13 B6 0 := by decide
theorem rk13_10_0 : room_ok B13 B10 0 := by decide
theorem rk14_15_0 : room_ok B14 B15 0 := by decide
theorem rk14_16_0 : room_ok B14 B16 0 := by decide
theorem rk14_17_0 : room_ok B14 B17 0 := by decide
theorem rk14_18_0 : room_ok B14 B18 0 := by decide
theorem rk14_19_0 : room_ok B14 B19 0 := by decide
theorem rk15_3_0 : room_ok B15 B3 0 := by decide
theorem rk16_3_0 : room_ok B16 B3 0 := by decide
theorem rk17_3_0 : room_ok B17 B3 0 := by decide
theorem rk18_3_0 : room_ok B18 B3 0 := by decide
theorem rk19_3_0 : room_ok B19 B3 0 := by decide
theorem rk19_7_0 : room_ok B19 B7 0 := by decide
theorem rk20_3_0 : room_ok B20 B3 0 := by decide
theorem rk20_10_0 : room_ok B20 B10 0 := by decide
theorem rk20_11_0 : room_ok B20 B11 0 := by decide
theorem rk21_3_0 : room_ok B21 B3 0 := by decide
theorem rk21_22_0 : room_ok B21 B22 0 := by decide
theorem rk23_3_0 : room_ok B23 B3 0 := by decide
theorem rk23_6_0 : room_ok B23 B6 0 := by decide
theorem rk23_10_0 : room_ok B23 B10 0 := by decide
theorem rk23_11_0 : room_ok B23 B11 0 := by decide
theorem rk23_29_0 : room_ok B23 B29 0 := by decide
theorem rk24_3_0 : room_ok B24 B3 0 := by decide
theorem rk24_6_0 : room_ok B24 B6 0 := by decide
theorem rk24_28_0 : room_ok B24 B28 0 := by decide
theorem rk25_3_0 : room_ok B25 B3 0 := by decide
theorem rk25_10_0 : room_ok B25 B10 0 := by decide
theorem rk25_11_0 : room_ok B25 B11 0 := by decide
theorem rk26_3_0 : room_ok B26 B3 0 := by decide
theorem rk26_6_0 : room_ok B26 B6 0 := by decide
theorem rk26_10_0 : room_ok B26 B10 0 := by decide
theorem rk26_11_0 : room_ok B26 B11 0 := by decide
theorem rk27_3_0 : room_ok B27 B3 0 := by decide
theorem rk28_7_0 : room_ok B28 B7 0 := by decide
theorem rk29_5_0 : room_ok B29 B5 0 := by decide
theorem rk29_30_0 : room_ok B29 B30 0 := by decide
theorem rk30_4_0 : room_ok B30 B4 0 := by decide
theorem rk30_6_0 : room_ok B30 B6 0 := by decide
theorem rk30_10_0 : room_ok B30 B10 0 := by decide
def X_init_b116 (ob : Rec) (i4 : Int32) : Option (Rec) :=
  if (8 : Int32) < i4 then
    some (sI ob 1 (8 : Int32))
  else
    some (sI ob 1 i4)
set_option maxRecDepth 65536 in
set_option maxHeartbeats 4000000 in
theorem X_init_b116_p {C : Ctx} {a : Nat} {H : List (Nat × Nat × Rec)} {res : Rec} (ob : Rec) (i4 : Int32) (hf : X_init_b116 ob i4 = some res) : Runs C B1 9 2648 116 [vr a, vn, vn, vn, vi i4] [] (a + 1 + 9, (a, 9, ob) :: H) (Ans none (a + 1 + 9, (a, 9, res) :: H)) := by
  delta X_init_b116 at hf
  refine Runs.iload d1_116 rfl <| Runs.bipush d1_118 cb_8 <| ?_
  refine ite_el hf (fun hc3 hf => ?_) (fun hc3 hf => ?_)
  · refine Runs.icN d1_120 (tlt hc3).2.2.2 <| ?_
    obtain rfl := Option.some.inj hf
    exact Runs.bipush d1_123 cb_8 <| Runs.istore (P' := [vr a, vn, vn, vn, vi (8 : Int32)]) d1_125 (by decide) rfl <| Runs.aloadN d1_127 rfl <| Runs.iload d1_128 rfl <| Runs.putI d1_130 w31 fS_1 (Or.inl w32) <| Runs.retV d1_133 rfl ⟨by decide, by decide⟩ ⟨rfl, rfl⟩
  · refine Runs.icY (pc' := 127) d1_120 (flt hc3).2.2.2 (by decide) <| ?_
    obtain rfl := Option.some.inj hf
    exact Runs.aloadN d1_127 rfl <| Runs.iload d1_128 rfl <| Runs.putI d1_130 w31 fS_1 (Or.inl w32) <| Runs.retV d1_133 rfl ⟨by decide, by decide⟩ ⟨rfl, rfl⟩
def X_init_b99 (ob : Rec) (i2 : Int32) (i3 : Int32) : Option (Rec) :=
  if i2 < (1 : Int32) then
    X_init_b116 (sI ob 0 i3) (1 : Int32)
  else
    X_init_b116 (sI ob 0 i3) i2
set_option maxRecDepth 65536 in
set_option maxHeartbeats 4000000 in
theorem X_init_b99_p {C : Ctx} {a : Nat} {H : List (Nat × Nat × Rec)} {res : Rec} (ob : Rec) (i2 : Int32) (i3 : Int32) (hf : X_init_b99 ob i2 i3 = some res) : Runs C B1 9 2648 99 [vr a, vn, vi i2, vi i3, vn] [] (a + 1 + 9, (a, 9, ob) :: H) (Ans none (a + 1 + 9, (a, 9, res) :: H)) := by
  delta X_init_b99 at hf
  refine Runs.aloadN d1_99 rfl <| Runs.iloadN d1_100 rfl <| Runs.putI d1_101 w29 fS_0 (Or.inl w30) <| Runs.iloadN d1_104 rfl <| Runs.istore (P' := [vr a, vn, vi i2, vi i3, vi i2]) d1_105 (by decide) rfl <| Runs.iload d1_107 rfl <| Runs.iconst d1_109 ci_1 <| ?_
  refine ite_el hf (fun hc2 hf => ?_) (fun hc2 hf => ?_)
  · refine Runs.icN d1_110 (tlt hc2).2.1 <| ?_
    exact Runs.iconst d1_113 ci_1 <| Runs.istore (P' := [vr a, vn, vi i2, vi i3, vi (1 : Int32)]) d1_114 (by decide) rfl <| Runs.forget [true, false, false, false, true] rfl <| X_init_b116_p (sI ob 0 i3) (1 : Int32) hf
  · exact Runs.icY (pc' := 116) d1_110 (flt hc2).2.1 (by decide) <| Runs.forget [true, false, false, false, true] rfl <| X_init_b116_p (sI ob 0 i3) i2 hf
def X_init_b90 (ob : Rec) (i2 : Int32) (i3 : Int32) : Option (Rec) :=
  if (8 : Int32) < i3 then
    X_init_b99 ob i2 (8 : Int32)
  else
    X_init_b99 ob i2 i3
set_option maxRecDepth 65536 in
set_option maxHeartbeats 4000000 in
theorem X_init_b90_p {C : Ctx} {a : Nat} {H : List (Nat × Nat × Rec)} {res : Rec} (ob : Rec) (i2 : Int32) (i3 : Int32) (hf : X_init_b90 ob i2 i3 = some res) : Runs C B1 9 2648 90 [vr a, vn, vi i2, vi i3, vn] [] (a + 1 + 9, (a, 9, ob) :: H) (Ans none (a + 1 + 9, (a, 9, res) :: H)) := by
  delta X_init_b90 at hf
  refine Runs.iloadN d1_90 rfl <| Runs.bipush d1_91 cb_8 <| ?_
  refine ite_el hf (fun hc1 hf => ?_) (fun hc1 hf => ?_)
  · refine Runs.icN d1_93 (tlt hc1).2.2.2 <| ?_
    exact Runs.bipush d1_96 cb_8 <| Runs.istoreN (P' := [vr a, vn, vi i2, vi (8 : Int32), vn]) d1_98 (by decide) rfl <| X_init_b99_p ob i2 (8 : Int32) hf
  · exact Runs.icY (pc' := 99) d1_93 (flt hc1).2.2.2 (by decide) <| X_init_b99_p ob i2 i3 hf
def X_init (i1 : Int32) (i2 : Int32) : Option (Rec) :=
  if i1 < (2 : Int32) then
    X_init_b90 zrec i2 (2 : Int32)
  else
    X_init_b90 zrec i2 i1
set_option maxRecDepth 65536 in
set_option maxHeartbeats 4000000 in
theorem X_init_p {C : Ctx} {a : Nat} {H : List (Nat × Nat × Rec)} {res : Rec} (i1 : Int32) (i2 : Int32) (hf : X_init i1 i2 = some res) : Runs C B1 0 0 0 [vr a, vi i1, vi i2, vn, vn] [] (a + 1, (a, 0, zrec) :: H) (Ans none (a + 1 + 9, (a, 9, res) :: H)) := by
  delta X_init at hf
  refine Runs.aloadN d1_0 rfl <| Runs.initO (W := 0) d1_1 w6 w7 w8 rfl (by decide) <| Runs.aloadN d1_4 rfl <| Runs.bipush d1_5 cb_8 <| Runs.newArr (j' := 1) (top' := a + 1 + 1) (k' := 1) (n' := 8) d1_7 d1_9 fA_0 w10 rfl w9 (Or.inl w11) rfl (by decide) ⟨by decide, by decide⟩ ⟨fun _ => rfl, fun _ => rfl⟩ rfl rfl rfl (by decide) <| Runs.aloadN d1_12 rfl <| Runs.bipush d1_13 cb_8 <| Runs.newArr (j' := 2) (top' := a + 1 + 2) (k' := 2) (n' := 16) d1_15 d1_17 fA_1 w13 rfl w12 (Or.inl w14) rfl (by decide) ⟨by decide, by decide⟩ ⟨fun _ => rfl, fun _ => rfl⟩ rfl rfl rfl (by decide) <| Runs.aloadN d1_20 rfl <| Runs.bipush d1_21 cb_64 <| Runs.newArr (j' := 3) (top' := a + 1 + 3) (k' := 3) (n' := 80) d1_23 d1_25 fA_2 w15 rfl w9 (Or.inl w16) rfl (by decide) ⟨by decide, by decide⟩ ⟨fun _ => rfl, fun _ => rfl⟩ rfl rfl rfl (by decide) <| Runs.aloadN d1_28 rfl <| ?_
  refine Runs.sipush d1_29 cs_512 <| Runs.newArr (j' := 4) (top' := a + 1 + 4) (k' := 4) (n' := 592) d1_32 d1_34 fA_3 w17 rfl w9 (Or.inl w18) rfl (by decide) ⟨by decide, by decide⟩ ⟨fun _ => rfl, fun _ => rfl⟩ rfl rfl rfl (by decide) <| Runs.aloadN d1_37 rfl <| Runs.sipush d1_38 cs_512 <| Runs.newArr (j' := 5) (top' := a + 1 + 5) (k' := 5) (n' := 1104) d1_41 d1_43 fA_4 w19 rfl w9 (Or.inl w20) rfl (by decide) ⟨by decide, by decide⟩ ⟨fun _ => rfl, fun _ => rfl⟩ rfl rfl rfl (by decide) <| Runs.aloadN d1_46 rfl <| Runs.sipush d1_47 cs_512 <| Runs.newArr (j' := 6) (top' := a + 1 + 6) (k' := 6) (n' := 1616) d1_50 d1_52 fA_5 w21 rfl w9 (Or.inl w22) rfl (by decide) ⟨by decide, by decide⟩ ⟨fun _ => rfl, fun _ => rfl⟩ rfl rfl rfl (by decide) <| Runs.aloadN d1_55 rfl <| Runs.sipush d1_56 cs_512 <| Runs.newArr (j' := 7) (top' := a + 1 + 7) (k' := 7) (n' := 2128) d1_59 d1_61 fA_6 w23 rfl w9 (Or.inl w24) rfl (by decide) ⟨by decide, by decide⟩ ⟨fun _ => rfl, fun _ => rfl⟩ rfl rfl rfl (by decide) <| Runs.aloadN d1_64 rfl <| ?_
  refine Runs.sipush d1_65 cs_512 <| Runs.newArr (j' := 8) (top' := a + 1 + 8) (k' := 8) (n' := 2640) d1_68 d1_70 fA_7 w25 rfl w9 (Or.inl w26) rfl (by decide) ⟨by decide, by decide⟩ ⟨fun _ => rfl, fun _ => rfl⟩ rfl rfl rfl (by decide) <| Runs.aloadN d1_73 rfl <| Runs.bipush d1_74 cb_8 <| Runs.newArr (j' := 9) (top' := a + 1 + 9) (k' := 9) (n' := 2648) d1_76 d1_78 fA_8 w27 rfl w9 (Or.inl w28) rfl (by decide) ⟨by decide, by decide⟩ ⟨fun _ => rfl, fun _ => rfl⟩ rfl rfl rfl (by decide) <| Runs.iloadN d1_81 rfl <| Runs.istoreN (P' := [vr a, vi i1, vi i2, vi i1, vn]) d1_82 (by decide) rfl <| Runs.iloadN d1_83 rfl <| Runs.iconst d1_84 ci_2 <| ?_
  refine ite_el hf (fun hc4 hf => ?_) (fun hc4 hf => ?_)
  · refine Runs.icN d1_85 (tlt hc4).2.1 <| ?_
    exact Runs.iconst d1_88 ci_2 <| Runs.istoreN (P' := [vr a, vi i1, vi i2, vi (2 : Int32), vn]) d1_89 (by decide) rfl <| Runs.forget [true, false, true, true, false] rfl <| X_init_b90_p zrec i2 (2 : Int32) hf
  · exact Runs.icY (pc' := 90) d1_85 (flt hc4).2.1 (by decide) <| Runs.forget [true, false, true, true, false] rfl <| X_init_b90_p zrec i2 i1 hf
theorem X_init_pay {C : Ctx} {a : Nat} {H : List (Nat × Nat × Rec)} {res : Rec} {i1 : Int32} {i2 : Int32} (hf : X_init i1 i2 = some res) : Pays C B1 [.ref a, .int i1, .int i2] (a + 1, (a, 0, zrec) :: H) (Ans none (a + 1 + 9, (a, 9, res) :: H)) :=
  Pays.of pnK (Nat.le_of_ble_eq_true rfl) (P := [vr a, vi i1, vi i2, vn, vn]) 2 rfl (X_init_p i1 i2 hf)
def X_validProc (ob : Rec) (i1 : Int32) : Option (Int32) :=
  if i1 < (0 : Int32) then
    some (0 : Int32)
  else
    if i1 < (gI ob 0) then
      some (1 : Int32)
    else
      some (0 : Int32)
set_option maxRecDepth 65536 in
set_option maxHeartbeats 4000000 in
theorem X_validProc_p {C : Ctx} {top : Nat} {a : Nat} {H : List (Nat × Nat × Rec)} {ob : Rec} {res : Int32} (i1 : Int32) (hf : X_validProc ob i1 = some res) : Runs C B3 0 0 0 [vr a, vi i1] [] (top, (a, 9, ob) :: H) (Ans (some (.int res)) (top, (a, 9, ob) :: H)) := by
  delta X_validProc at hf
  refine Runs.iloadN d3_0 rfl <| ?_
  refine ite_el hf (fun hc1 hf => ?_) (fun hc1 hf => ?_)
  · refine Runs.ifY (pc' := 16) d3_1 (tlt hc1).1 (by decide) <| ?_
    obtain rfl := Option.some.inj hf
    exact Runs.iconst d3_16 ci_0 <| Runs.retZ (y := (0 : Int32)) d3_17 rfl ⟨by decide, by decide⟩ rfl ⟨rfl, rfl⟩
  · refine Runs.ifN d3_1 (flt hc1).1 <| ?_
    refine Runs.iloadN d3_4 rfl <| Runs.aloadN d3_5 rfl <| Runs.getI d3_6 w29 fS_0 <| ?_
    refine ite_el hf (fun hc2 hf => ?_) (fun hc2 hf => ?_)
    · refine Runs.icN d3_9 (tlt hc2).2.1 <| ?_
      obtain rfl := Option.some.inj hf
      exact Runs.iconst d3_12 ci_1 <| Runs.goto (pc' := 17) d3_13 (by decide) <| Runs.retZ (y := (1 : Int32)) d3_17 rfl ⟨by decide, by decide⟩ rfl ⟨rfl, rfl⟩
    · refine Runs.icY (pc' := 16) d3_9 (flt hc2).2.1 (by decide) <| ?_
      obtain rfl := Option.some.inj hf
      exact Runs.iconst d3_16 ci_0 <| Runs.retZ (y := (0 : Int32)) d3_17 rfl ⟨by decide, by decide⟩ rfl ⟨rfl, rfl⟩
theorem X_validProc_pay {C : Ctx} {top : Nat} {a : Nat} {H : List (Nat × Nat × Rec)} {ob : Rec} {res : Int32} {i1 : Int32} (hf : X_validProc ob i1 = some res) : Pays C B3 [.ref a, .int i1] (top, (a, 9, ob) :: H) (Ans (some (.int res)) (top, (a, 9, ob) :: H)) :=
  Pays.of pnK (Nat.le_of_ble_eq_true rfl) (P := [vr a, vi i1]) 0 rfl (X_validProc_p i1 hf)
def X_msgIndex (ob : Rec) (i1 : Int32) (i2 : Int32) : Option (Int32) :=
  some (((i1 * (8 : Int32)) + i2) - (1 : Int32))
set_option maxRecDepth 65536 in
set_option maxHeartbeats 4000000 in
theorem X_msgIndex_p {C : Ctx} {top : Nat} {a : Nat} {H : List (Nat × Nat × Rec)} {ob : Rec} {res : Int32} (i1 : Int32) (i2 : Int32) (hf : X_msgIndex ob i1 i2 = some res) : Runs C B4 0 0 0 [vr a, vi i1, vi i2] [] (top, (a, 9, ob) :: H) (Ans (some (.int res)) (top, (a, 9, ob) :: H)) := by
  delta X_msgIndex at hf
  obtain rfl := Option.some.inj hf
  exact Runs.iloadN d4_0 rfl <| Runs.bipush d4_1 cb_8 <| Runs.imul d4_3 <| Runs.iloadN d4_4 rfl <| Runs.iadd d4_5 <| Runs.iconst d4_6 ci_1 <| Runs.isub d4_7 <| Runs.retI d4_8 rfl ⟨by decide, by decide⟩ ⟨rfl, rfl⟩
theorem X_msgIndex_pay {C : Ctx} {top : Nat} {a : Nat} {H : List (Nat × Nat × Rec)} {ob : Rec} {res : Int32} {i1 : Int32} {i2 : Int32} (hf : X_msgIndex ob i1 i2 = some res) : Pays C B4 [.ref a, .int i1, .int i2] (top, (a, 9, ob) :: H) (Ans (some (.int res)) (top, (a, 9, ob) :: H)) :=
  Pays.of pnK (Nat.le_of_ble_eq_true rfl) (P := [vr a, vi i1, vi i2]) 0 rfl (X_msgIndex_p i1 i2 hf)
def X_stateIndex (ob : Rec) (i1 : Int32) (i2 : Int32) (i3 : Int32) : Option (Int32) :=
  some ((((i1 * (64 : Int32)) + (i2 * (8 : Int32))) + i3) - (1 : Int32))
set_option maxRecDepth 65536 in
set_option maxHeartbeats 4000000 in
theorem X_stateIndex_p {C : Ctx} {top : Nat} {a : Nat} {H : List (Nat × Nat × Rec)} {ob : Rec} {res : Int32} (i1 : Int32) (i2 : Int32) (i3 : Int32) (hf : X_stateIndex ob i1 i2 i3 = some res) : Runs C B6 0 0 0 [vr a, vi i1, vi i2, vi i3] [] (top, (a, 9, ob) :: H) (Ans (some (.int res)) (top, (a, 9, ob) :: H)) := by
  delta X_stateIndex at hf
  obtain rfl := Option.some.inj hf
  exact Runs.iloadN d6_0 rfl <| Runs.bipush d6_1 cb_64 <| Runs.imul d6_3 <| Runs.iloadN d6_4 rfl <| Runs.bipush d6_5 cb_8 <| Runs.imul d6_7 <| Runs.iadd d6_8 <| Runs.iloadN d6_9 rfl <| Runs.iadd d6_10 <| Runs.iconst d6_11 ci_1 <| Runs.isub d6_12 <| Runs.retI d6_13 rfl ⟨by decide, by decide⟩ ⟨rfl, rfl⟩
theorem X_stateIndex_pay {C : Ctx} {top : Nat} {a : Nat} {H : List (Nat × Nat × Rec)} {ob : Rec} {res : Int32} {i1 : Int32} {i2 : Int32} {i3 : Int32} (hf : X_stateIndex ob i1 i2 i3 = some res) : Pays C B6 [.ref a, .int i1, .int i2, .int i3] (top, (a, 9, ob) :: H) (Ans (some (.int res)) (top, (a, 9, ob) :: H)) :=
  Pays.of pnK (Nat.le_of_ble_eq_true rfl) (P := [vr a, vi i1, vi i2, vi i3]) 0 rfl (X_stateIndex_p i1 i2 i3 hf)
def X_knownIndex (ob : Rec) (i1 : Int32) (i2 : Int32) (i3 : Int32) : Option (Int32) :=
  some (((i1 * (64 : Int32)) + (i2 * (8 : Int32))) + i3)
set_option maxRecDepth 65536 in
set_option maxHeartbeats 4000000 in
theorem X_knownIndex_p {C : Ctx} {top : Nat} {a : Nat} {H : List (Nat × Nat × Rec)} {ob : Rec} {res : Int32} (i1 : Int32) (i2 : Int32) (i3 : Int32) (hf : X_knownIndex ob i1 i2 i3 = some res) : Runs C B7 0 0 0 [vr a, vi i1, vi i2, vi i3] [] (top, (a, 9, ob) :: H) (Ans (some (.int res)) (top, (a, 9, ob) :: H)) := by
  delta X_knownIndex at hf
  obtain rfl := Option.some.inj hf
  exact Runs.iloadN d7_0 rfl <| Runs.bipush d7_1 cb_64 <| Runs.imul d7_3 <| Runs.iloadN d7_4 rfl <| Runs.bipush d7_5 cb_8 <| Runs.imul d7_7 <| Runs.iadd d7_8 <| Runs.iloadN d7_9 rfl <| Runs.iadd d7_10 <| Runs.retI d7_11 rfl ⟨by decide, by decide⟩ ⟨rfl, rfl⟩
theorem X_knownIndex_pay {C : Ctx} {top : Nat} {a : Nat} {H : List (Nat × Nat × Rec)} {ob : Rec} {res : Int32} {i1 : Int32} {i2 : Int32} {i3 : Int32} (hf : X_knownIndex ob i1 i2 i3 = some res) : Pays C B7 [.ref a, .int i1, .int i2, .int i3] (top, (a, 9, ob) :: H) (Ans (some (.int res)) (top, (a, 9, ob) :: H)) :=
  Pays.of pnK (Nat.le_of_ble_eq_true rfl) (P := [vr a, vi i1, vi i2, vi i3]) 0 rfl (X_knownIndex_p i1 i2 i3 hf)
def X_deliverAt_b89 (ob : Rec) (i1 : Int32) (i2 : Int32) : Option (Rec) :=
  (X_knownIndex ob i1 i1 i2).bind fun r1 =>
  chk (64 : Int32) ((i1 * (8 : Int32)) + i2) <|
  chk (512 : Int32) r1 <|
  some (sA ob 6 r1 (gA ob 2 ((i1 * (8 : Int32)) + i2)))
set_option maxRecDepth 65536 in
set_option maxHeartbeats 4000000 in
theorem X_deliverAt_b89_p {C : Ctx} {top : Nat} {a : Nat} {H : List (Nat × Nat × Rec)} {res : Rec} (ob : Rec) (i1 : Int32) (i2 : Int32) (hf : X_deliverAt_b89 ob i1 i2 = some res) : Runs C B5 0 0 89 [vr a, vi i1, vi i2, vn, vn, vn, vn] [] (top, (a, 9, ob) :: H) (Ans none (top, (a, 9, res) :: H)) := by
  delta X_deliverAt_b89 at hf
  refine Runs.aloadN d5_89 rfl <| Runs.iloadN d5_90 rfl <| Runs.iloadN d5_91 rfl <| Runs.iloadN d5_92 rfl <| ?_
  refine bind_el hf fun r1 hg2 hf => ?_
  refine Runs.callP (N := B7) (W := 0) (as := [.int i1, .int i1, .int i2]) (S' := []) d5_93 w54 w55 w56 rfl cw7 ar7 rk5_7_0 (by decide) rfl rfl (X_knownIndex_pay hg2) <| ans1 <| Runs.istore (P' := [vr a, vi i1, vi i2, vn, vn, vn, vi r1]) d5_96 (by decide) rfl <| Runs.aloadN d5_98 rfl <| Runs.getA d5_99 fA_6 w23 (by decide) <| Runs.iload d5_102 rfl <| Runs.aloadN d5_104 rfl <| Runs.getA d5_105 fA_2 w15 (by decide) <| Runs.iloadN d5_108 rfl <| Runs.bipush d5_109 cb_8 <| Runs.imul d5_111 <| Runs.iloadN d5_112 rfl <| Runs.iadd d5_113 <| ?_
  refine chk_el hf fun hi3 hf => ?_
  refine Runs.ialoadA d5_114 fA_2 (by decide) hi3 <| ?_
  refine chk_el hf fun hi4 hf => ?_
  obtain rfl := Option.some.inj hf
  exact Runs.iastoreA d5_115 fA_6 (by decide) hi4 <| Runs.retV d5_116 rfl ⟨by decide, by decide⟩ ⟨rfl, rfl⟩
def X_deliverAt (ob : Rec) (i1 : Int32) (i2 : Int32) (i3 : Int32) : Option (Rec) :=
  (X_stateIndex ob i1 i2 i3).bind fun r5 =>
  chk (512 : Int32) r5 <|
  chk (64 : Int32) ((i1 * (8 : Int32)) + i2) <|
  chk (64 : Int32) ((i1 * (8 : Int32)) + i2) <|
  chk (8 : Int32) i1 <|
  if (gA ob 8 i1) < (0 : Int32) then
    X_deliverAt_b89 (sA (sA ob 3 r5 (2 : Int32)) 2 ((i1 * (8 : Int32)) + i2) ((gA ob 2 ((i1 * (8 : Int32)) + i2)) + (1 : Int32))) i1 i2
  else
    if (gA ob 8 i1) < (64 : Int32) then
      chk (512 : Int32) ((i1 * (64 : Int32)) + (gA ob 8 i1)) <|
      chk (8 : Int32) i1 <|
      X_deliverAt_b89 (sA (sA (sA (sA ob 3 r5 (2 : Int32)) 2 ((i1 * (8 : Int32)) + i2) ((gA ob 2 ((i1 * (8 : Int32)) + i2)) + (1 : Int32))) 7 ((i1 * (64 : Int32)) + (gA ob 8 i1)) ((i2 * (16 : Int32)) + i3)) 8 i1 ((gA ob 8 i1) + (1 : Int32))) i1 i2
    else
      X_deliverAt_b89 (sA (sA ob 3 r5 (2 : Int32)) 2 ((i1 * (8 : Int32)) + i2) ((gA ob 2 ((i1 * (8 : Int32)) + i2)) + (1 : Int32))) i1 i2
set_option maxRecDepth 65536 in
set_option maxHeartbeats 4000000 in
theorem X_deliverAt_p {C : Ctx} {top : Nat} {a : Nat} {H : List (Nat × Nat × Rec)} {res : Rec} (ob : Rec) (i1 : Int32) (i2 : Int32) (i3 : Int32) (hf : X_deliverAt ob i1 i2 i3 = some res) : Runs C B5 0 0 0 [vr a, vi i1, vi i2, vi i3, vn, vn, vn] [] (top, (a, 9, ob) :: H) (Ans none (top, (a, 9, res) :: H)) := by
  delta X_deliverAt at hf
  refine Runs.aloadN d5_0 rfl <| Runs.iloadN d5_1 rfl <| Runs.iloadN d5_2 rfl <| Runs.iloadN d5_3 rfl <| ?_
  refine bind_el hf fun r5 hg6 hf => ?_
  refine Runs.callP (N := B6) (W := 0) (as := [.int i1, .int i2, .int i3]) (S' := []) d5_4 w50 w51 w52 rfl cw6 ar6 rk5_6_0 (by decide) rfl rfl (X_stateIndex_pay hg6) <| ans1 <| Runs.istore (P' := [vr a, vi i1, vi i2, vi i3, vi r5, vn, vn]) d5_7 (by decide) rfl <| Runs.aloadN d5_9 rfl <| Runs.getA d5_10 fA_3 w17 (by decide) <| Runs.iload d5_13 rfl <| Runs.iconst d5_15 ci_2 <| ?_
  refine chk_el hf fun hi7 hf => ?_
  refine Runs.iastoreA d5_16 fA_3 (by decide) hi7 <| Runs.aloadN d5_17 rfl <| Runs.getA d5_18 fA_2 w15 (by decide) <| Runs.iloadN d5_21 rfl <| Runs.bipush d5_22 cb_8 <| Runs.imul d5_24 <| Runs.iloadN d5_25 rfl <| Runs.iadd d5_26 <| Runs.aloadN d5_27 rfl <| Runs.getA d5_28 fA_2 w15 (by decide) <| Runs.iloadN d5_31 rfl <| Runs.bipush d5_32 cb_8 <| ?_
  refine Runs.imul d5_34 <| Runs.iloadN d5_35 rfl <| Runs.iadd d5_36 <| ?_
  refine chk_el hf fun hi8 hf => ?_
  refine Runs.ialoadA d5_37 fA_2 (by decide) hi8 <| Runs.iconst d5_38 ci_1 <| Runs.iadd d5_39 <| ?_
  refine chk_el hf fun hi9 hf => ?_
  refine Runs.iastoreA d5_40 fA_2 (by decide) hi9 <| Runs.aloadN d5_41 rfl <| Runs.getA d5_42 fA_8 w27 (by decide) <| Runs.iloadN d5_45 rfl <| ?_
  refine chk_el hf fun hi10 hf => ?_
  refine Runs.ialoadA d5_46 fA_8 (by decide) hi10 <| Runs.istore (P' := [vr a, vi i1, vi i2, vi i3, vi r5, vi (gA ob 8 i1), vn]) d5_47 (by decide) rfl <| Runs.iload d5_49 rfl <| ?_
  refine ite_el hf (fun hc11 hf => ?_) (fun hc11 hf => ?_)
  · exact Runs.ifY (pc' := 89) d5_51 (tlt hc11).1 (by decide) <| Runs.forget [true, true, true, false, false, false, false] rfl <| X_deliverAt_b89_p (sA (sA ob 3 r5 (2 : Int32)) 2 ((i1 * (8 : Int32)) + i2) ((gA ob 2 ((i1 * (8 : Int32)) + i2)) + (1 : Int32))) i1 i2 hf
  · refine Runs.ifN d5_51 (flt hc11).1 <| ?_
    refine Runs.iload d5_54 rfl <| Runs.bipush d5_56 cb_64 <| ?_
    refine ite_el hf (fun hc12 hf => ?_) (fun hc12 hf => ?_)
    · refine Runs.icN d5_58 (tlt hc12).2.1 <| ?_
      refine Runs.aloadN d5_61 rfl <| Runs.getA d5_62 fA_7 w25 (by decide) <| Runs.iloadN d5_65 rfl <| Runs.bipush d5_66 cb_64 <| Runs.imul d5_68 <| Runs.iload d5_69 rfl <| Runs.iadd d5_71 <| Runs.iloadN d5_72 rfl <| Runs.bipush d5_73 cb_16 <| Runs.imul d5_75 <| Runs.iloadN d5_76 rfl <| Runs.iadd d5_77 <| ?_
      refine chk_el hf fun hi13 hf => ?_
      refine Runs.iastoreA d5_78 fA_7 (by decide) hi13 <| Runs.aloadN d5_79 rfl <| Runs.getA d5_80 fA_8 w27 (by decide) <| Runs.iloadN d5_83 rfl <| Runs.iload d5_84 rfl <| Runs.iconst d5_86 ci_1 <| Runs.iadd d5_87 <| ?_
      refine chk_el hf fun hi14 hf => ?_
      exact Runs.iastoreA d5_88 fA_8 (by decide) hi14 <| Runs.forget [true, true, true, false, false, false, false] rfl <| X_deliverAt_b89_p (sA (sA (sA (sA ob 3 r5 (2 : Int32)) 2 ((i1 * (8 : Int32)) + i2) ((gA ob 2 ((i1 * (8 : Int32)) + i2)) + (1 : Int32))) 7 ((i1 * (64 : Int32)) + (gA ob 8 i1)) ((i2 * (16 : Int32)) + i3)) 8 i1 ((gA ob 8 i1) + (1 : Int32))) i1 i2 hf
    · exact Runs.icY (pc' := 89) d5_58 (flt hc12).2.1 (by decide) <| Runs.forget [true, true, true, false, false, false, false] rfl <| X_deliverAt_b89_p (sA (sA ob 3 r5 (2 : Int32)) 2 ((i1 * (8 : Int32)) + i2) ((gA ob 2 ((i1 * (8 : Int32)) + i2)) + (1 : Int32))) i1 i2 hf
theorem X_deliverAt_pay {C : Ctx} {top : Nat} {a : Nat} {H : List (Nat × Nat × Rec)} {res : Rec} {ob : Rec} {i1 : Int32} {i2 : Int32} {i3 : Int32} (hf : X_deliverAt ob i1 i2 i3 = some res) : Pays C B5 [.ref a, .int i1, .int i2, .int i3] (top, (a, 9, ob) :: H) (Ans none (top, (a, 9, res) :: H)) :=
  Pays.of pnK (Nat.le_of_ble_eq_true rfl) (P := [vr a, vi i1, vi i2, vi i3, vn, vn, vn]) 3 rfl (X_deliverAt_p ob i1 i2 i3 hf)
def X_broadcast_w125 (NF : Nat) (k125 : Rec → Int32 → Int32 → Int32 → Int32 → Option (Int32 × Rec)) (ob : Rec) (i1 : Int32) (i2 : Int32) (i3 : Int32) (i4 : Int32) : Option (Int32 × Rec) :=
  if i4 < (gI ob 0) then
    if i4 = i1 then
      chk (512 : Int32) ((i3 * (8 : Int32)) + i4) <|
      k125 (sA ob 5 ((i3 * (8 : Int32)) + i4) (0 : Int32)) i1 i2 i3 (i4 + (1 : Int32))
    else
      chk (512 : Int32) ((i3 * (8 : Int32)) + i4) <|
      k125 (sA ob 5 ((i3 * (8 : Int32)) + i4) (1 : Int32)) i1 i2 i3 (i4 + (1 : Int32))
  else
    some (i2, ob)
def X_broadcast_l125 (NF : Nat) : Nat → Rec → Int32 → Int32 → Int32 → Int32 → Option (Int32 × Rec)
  | 0, _, _, _, _, _ => none
  | n + 1, ob, i1, i2, i3, i4 => X_broadcast_w125 NF (X_broadcast_l125 NF n) ob i1 i2 i3 i4
set_option maxRecDepth 65536 in
set_option maxHeartbeats 4000000 in
theorem X_broadcast_w125_p {C : Ctx} {top : Nat} {a : Nat} {H : List (Nat × Nat × Rec)} {res : Int32 × Rec} {NF : Nat} (k125 : Rec → Int32 → Int32 → Int32 → Int32 → Option (Int32 × Rec)) (hk125 : ∀ (ob : Rec) (i1 : Int32) (i2 : Int32) (i3 : Int32) (i4 : Int32), k125 ob i1 i2 i3 i4 = some res → Runs C B2 0 0 125 [vr a, vi i1, vi i2, vi i3, vi i4] [] (top, (a, 9, ob) :: H) (Ans (some (.int res.1)) (top, (a, 9, res.2) :: H))) (ob : Rec) (i1 : Int32) (i2 : Int32) (i3 : Int32) (i4 : Int32) (hf : X_broadcast_w125 NF k125 ob i1 i2 i3 i4 = some res) : Runs C B2 0 0 125 [vr a, vi i1, vi i2, vi i3, vi i4] [] (top, (a, 9, ob) :: H) (Ans (some (.int res.1)) (top, (a, 9, res.2) :: H)) := by
  delta X_broadcast_w125 at hf
  refine Runs.iload d2_125 rfl <| Runs.aloadN d2_127 rfl <| Runs.getI d2_128 w29 fS_0 <| ?_
  refine ite_el hf (fun hc7 hf => ?_) (fun hc7 hf => ?_)
  · refine Runs.icN d2_131 (tlt hc7).2.1 <| ?_
    refine Runs.aloadN d2_134 rfl <| Runs.getA d2_135 fA_5 w21 (by decide) <| Runs.iloadN d2_138 rfl <| Runs.bipush d2_139 cb_8 <| Runs.imul d2_141 <| Runs.iload d2_142 rfl <| Runs.iadd d2_144 <| Runs.iload d2_145 rfl <| Runs.iloadN d2_147 rfl <| ?_
    refine ite_el hf (fun hc8 hf => ?_) (fun hc8 hf => ?_)
    · refine Runs.icN d2_148 (teq hc8).2 <| ?_
      refine Runs.iconst d2_151 ci_0 <| Runs.goto (pc' := 156) d2_152 (by decide) <| ?_
      refine chk_el hf fun hi9 hf => ?_
      exact Runs.iastoreA d2_156 fA_5 (by decide) hi9 <| Runs.iinc (P' := [vr a, vi i1, vi i2, vi i3, vi (i4 + (1 : Int32))]) d2_157 ci_1 rfl (by decide) rfl <| Runs.goto (pc' := 125) d2_160 (by decide) <| hk125 (sA ob 5 ((i3 * (8 : Int32)) + i4) (0 : Int32)) i1 i2 i3 (i4 + (1 : Int32)) hf
    · refine Runs.icY (pc' := 155) d2_148 (feq hc8).2 (by decide) <| ?_
      refine Runs.iconst d2_155 ci_1 <| ?_
      refine chk_el hf fun hi10 hf => ?_
      exact Runs.iastoreA d2_156 fA_5 (by decide) hi10 <| Runs.iinc (P' := [vr a, vi i1, vi i2, vi i3, vi (i4 + (1 : Int32))]) d2_157 ci_1 rfl (by decide) rfl <| Runs.goto (pc' := 125) d2_160 (by decide) <| hk125 (sA ob 5 ((i3 * (8 : Int32)) + i4) (1 : Int32)) i1 i2 i3 (i4 + (1 : Int32)) hf
  · refine Runs.icY (pc' := 163) d2_131 (flt hc7).2.1 (by decide) <| ?_
    obtain rfl := Option.some.inj hf
    exact Runs.iloadN d2_163 rfl <| Runs.retI d2_164 rfl ⟨by decide, by decide⟩ ⟨rfl, rfl⟩
theorem X_broadcast_l125_p {C : Ctx} {top : Nat} {a : Nat} {H : List (Nat × Nat × Rec)} {res : Int32 × Rec} {NF : Nat} (n : Nat) (ob : Rec) (i1 : Int32) (i2 : Int32) (i3 : Int32) (i4 : Int32) (hf : X_broadcast_l125 NF n ob i1 i2 i3 i4 = some res) : Runs C B2 0 0 125 [vr a, vi i1, vi i2, vi i3, vi i4] [] (top, (a, 9, ob) :: H) (Ans (some (.int res.1)) (top, (a, 9, res.2) :: H)) := by
  induction n generalizing ob i1 i2 i3 i4 with
  | zero => cases (show (none : Option (Int32 × Rec)) = some res from hf)
  | succ n ih => exact X_broadcast_w125_p (X_broadcast_l125 NF n) (fun ob i1 i2 i3 i4 h => ih _ _ _ _ _ h) ob i1 i2 i3 i4 hf
def X_broadcast_w64 (NF : Nat) (k64 : Rec → Int32 → Int32 → Int32 → Int32 → Option (Int32 × Rec)) (ob : Rec) (i1 : Int32) (i2 : Int32) (i3 : Int32) (i4 : Int32) : Option (Int32 × Rec) :=
  if i4 < (gI ob 0) then
    chk (64 : Int32) ((i1 * (8 : Int32)) + i4) <|
    chk (512 : Int32) ((i3 * (8 : Int32)) + i4) <|
    k64 (sA ob 4 ((i3 * (8 : Int32)) + i4) (gA ob 2 ((i1 * (8 : Int32)) + i4))) i1 i2 i3 (i4 + (1 : Int32))
  else
    chk (512 : Int32) ((i3 * (8 : Int32)) + i1) <|
    (X_deliverAt (sA ob 4 ((i3 * (8 : Int32)) + i1) i2) i1 i1 i2).bind fun q5 =>
    X_broadcast_l125 NF NF q5 i1 i2 i3 (0 : Int32)
def X_broadcast_l64 (NF : Nat) : Nat → Rec → Int32 → Int32 → Int32 → Int32 → Option (Int32 × Rec)
  | 0, _, _, _, _, _ => none
  | n + 1, ob, i1, i2, i3, i4 => X_broadcast_w64 NF (X_broadcast_l64 NF n) ob i1 i2 i3 i4
set_option maxRecDepth 65536 in
set_option maxHeartbeats 4000000 in
theorem X_broadcast_w64_p {C : Ctx} {top : Nat} {a : Nat} {H : List (Nat × Nat × Rec)} {res : Int32 × Rec} {NF : Nat} (k64 : Rec → Int32 → Int32 → Int32 → Int32 → Option (Int32 × Rec)) (hk64 : ∀ (ob : Rec) (i1 : Int32) (i2 : Int32) (i3 : Int32) (i4 : Int32), k64 ob i1 i2 i3 i4 = some res → Runs C B2 0 0 64 [vr a, vi i1, vi i2, vi i3, vi i4] [] (top, (a, 9, ob) :: H) (Ans (some (.int res.1)) (top, (a, 9, res.2) :: H))) (ob : Rec) (i1 : Int32) (i2 : Int32) (i3 : Int32) (i4 : Int32) (hf : X_broadcast_w64 NF k64 ob i1 i2 i3 i4 = some res) : Runs C B2 0 0 64 [vr a, vi i1, vi i2, vi i3, vi i4] [] (top, (a, 9, ob) :: H) (Ans (some (.int res.1)) (top, (a, 9, res.2) :: H)) := by
  delta X_broadcast_w64 at hf
  refine Runs.iload d2_64 rfl <| Runs.aloadN d2_66 rfl <| Runs.getI d2_67 w29 fS_0 <| ?_
  refine ite_el hf (fun hc1 hf => ?_) (fun hc1 hf => ?_)
  · refine Runs.icN d2_70 (tlt hc1).2.1 <| ?_
    refine Runs.aloadN d2_73 rfl <| Runs.getA d2_74 fA_4 w19 (by decide) <| Runs.iloadN d2_77 rfl <| Runs.bipush d2_78 cb_8 <| Runs.imul d2_80 <| Runs.iload d2_81 rfl <| Runs.iadd d2_83 <| Runs.aloadN d2_84 rfl <| Runs.getA d2_85 fA_2 w15 (by decide) <| Runs.iloadN d2_88 rfl <| Runs.bipush d2_89 cb_8 <| Runs.imul d2_91 <| ?_
    refine Runs.iload d2_92 rfl <| Runs.iadd d2_94 <| ?_
    refine chk_el hf fun hi2 hf => ?_
    refine Runs.ialoadA d2_95 fA_2 (by decide) hi2 <| ?_
    refine chk_el hf fun hi3 hf => ?_
    exact Runs.iastoreA d2_96 fA_4 (by decide) hi3 <| Runs.iinc (P' := [vr a, vi i1, vi i2, vi i3, vi (i4 + (1 : Int32))]) d2_97 ci_1 rfl (by decide) rfl <| Runs.goto (pc' := 64) d2_100 (by decide) <| hk64 (sA ob 4 ((i3 * (8 : Int32)) + i4) (gA ob 2 ((i1 * (8 : Int32)) + i4))) i1 i2 i3 (i4 + (1 : Int32)) hf
  · refine Runs.icY (pc' := 103) d2_70 (flt hc1).2.1 (by decide) <| ?_
    refine Runs.aloadN d2_103 rfl <| Runs.getA d2_104 fA_4 w19 (by decide) <| Runs.iloadN d2_107 rfl <| Runs.bipush d2_108 cb_8 <| Runs.imul d2_110 <| Runs.iloadN d2_111 rfl <| Runs.iadd d2_112 <| Runs.iloadN d2_113 rfl <| ?_
    refine chk_el hf fun hi4 hf => ?_
    refine Runs.iastoreA d2_114 fA_4 (by decide) hi4 <| Runs.aloadN d2_115 rfl <| Runs.iloadN d2_116 rfl <| Runs.iloadN d2_117 rfl <| Runs.iloadN d2_118 rfl <| ?_
    refine bind_el hf fun q5 hg6 hf => ?_
    exact Runs.callP (N := B5) (W := 0) (as := [.int i1, .int i1, .int i2]) (S' := []) d2_119 w46 w47 w48 rfl cw5 ar5 rk2_5_0 (by decide) rfl rfl (X_deliverAt_pay hg6) <| ans0 <| Runs.iconst d2_122 ci_0 <| Runs.istore (P' := [vr a, vi i1, vi i2, vi i3, vi (0 : Int32)]) d2_123 (by decide) rfl <| X_broadcast_l125_p NF q5 i1 i2 i3 (0 : Int32) hf
theorem X_broadcast_l64_p {C : Ctx} {top : Nat} {a : Nat} {H : List (Nat × Nat × Rec)} {res : Int32 × Rec} {NF : Nat} (n : Nat) (ob : Rec) (i1 : Int32) (i2 : Int32) (i3 : Int32) (i4 : Int32) (hf : X_broadcast_l64 NF n ob i1 i2 i3 i4 = some res) : Runs C B2 0 0 64 [vr a, vi i1, vi i2, vi i3, vi i4] [] (top, (a, 9, ob) :: H) (Ans (some (.int res.1)) (top, (a, 9, res.2) :: H)) := by
  induction n generalizing ob i1 i2 i3 i4 with
  | zero => cases (show (none : Option (Int32 × Rec)) = some res from hf)
  | succ n ih => exact X_broadcast_w64_p (X_broadcast_l64 NF n) (fun ob i1 i2 i3 i4 h => ih _ _ _ _ _ h) ob i1 i2 i3 i4 hf
def X_broadcast (NF : Nat) (ob : Rec) (i1 : Int32) : Option (Int32 × Rec) :=
  (X_validProc ob i1).bind fun r11 =>
  if r11 = (0 : Int32) then
    some ((-1 : Int32), ob)
  else
    chk (8 : Int32) i1 <|
    if (gA ob 1 i1) = (0 : Int32) then
      chk (8 : Int32) i1 <|
      if (gA ob 0 i1) < (gI ob 1) then
        chk (8 : Int32) i1 <|
        chk (8 : Int32) i1 <|
        (X_msgIndex (sA ob 0 i1 ((gA ob 0 i1) + (1 : Int32))) i1 ((gA ob 0 i1) + (1 : Int32))).bind fun r20 =>
        X_broadcast_l64 NF NF (sA ob 0 i1 ((gA ob 0 i1) + (1 : Int32))) i1 ((gA ob 0 i1) + (1 : Int32)) r20 (0 : Int32)
      else
        some ((-3 : Int32), ob)
    else
      some ((-2 : Int32), ob)
set_option maxRecDepth 65536 in
set_option maxHeartbeats 4000000 in
theorem X_broadcast_p {C : Ctx} {top : Nat} {a : Nat} {H : List (Nat × Nat × Rec)} {res : Int32 × Rec} {NF : Nat} (ob : Rec) (i1 : Int32) (hf : X_broadcast NF ob i1 = some res) : Runs C B2 0 0 0 [vr a, vi i1, vn, vn, vn] [] (top, (a, 9, ob) :: H) (Ans (some (.int res.1)) (top, (a, 9, res.2) :: H)) := by
  delta X_broadcast at hf
  refine Runs.aloadN d2_0 rfl <| Runs.iloadN d2_1 rfl <| ?_
  refine bind_el hf fun r11 hg12 hf => ?_
  refine Runs.callP (N := B3) (W := 0) (as := [.int i1]) (S' := []) d2_2 w38 w39 w40 rfl cw3 ar3 rk2_3_0 (by decide) rfl rfl (X_validProc_pay hg12) <| ans1 <| ?_
  refine ite_el hf (fun hc13 hf => ?_) (fun hc13 hf => ?_)
  · refine Runs.ifN d2_5 (teq hc13).2 <| ?_
    obtain rfl := Option.some.inj hf
    exact Runs.iconst d2_8 ci_m1 <| Runs.retI d2_9 rfl ⟨by decide, by decide⟩ ⟨rfl, rfl⟩
  · refine Runs.ifY (pc' := 10) d2_5 (feq hc13).2 (by decide) <| ?_
    refine Runs.aloadN d2_10 rfl <| Runs.getA d2_11 fA_1 w13 (by decide) <| Runs.iloadN d2_14 rfl <| ?_
    refine chk_el hf fun hi14 hf => ?_
    refine Runs.baloadA d2_15 fA_1 (by decide) hi14 <| ?_
    refine ite_el hf (fun hc15 hf => ?_) (fun hc15 hf => ?_)
    · refine Runs.ifY (pc' := 22) d2_16 (teq hc15).1 (by decide) <| ?_
      refine Runs.aloadN d2_22 rfl <| Runs.getA d2_23 fA_0 w10 (by decide) <| Runs.iloadN d2_26 rfl <| ?_
      refine chk_el hf fun hi16 hf => ?_
      refine Runs.ialoadA d2_27 fA_0 (by decide) hi16 <| Runs.aloadN d2_28 rfl <| Runs.getI d2_29 w31 fS_1 <| ?_
      refine ite_el hf (fun hc17 hf => ?_) (fun hc17 hf => ?_)
      · refine Runs.icY (pc' := 38) d2_32 (tlt hc17).1 (by decide) <| ?_
        refine Runs.aloadN d2_38 rfl <| Runs.getA d2_39 fA_0 w10 (by decide) <| Runs.iloadN d2_42 rfl <| ?_
        refine chk_el hf fun hi18 hf => ?_
        refine Runs.ialoadA d2_43 fA_0 (by decide) hi18 <| Runs.iconst d2_44 ci_1 <| Runs.iadd d2_45 <| Runs.istoreN (P' := [vr a, vi i1, vi ((gA ob 0 i1) + (1 : Int32)), vn, vn]) d2_46 (by decide) rfl <| Runs.aloadN d2_47 rfl <| Runs.getA d2_48 fA_0 w10 (by decide) <| Runs.iloadN d2_51 rfl <| Runs.iloadN d2_52 rfl <| ?_
        refine chk_el hf fun hi19 hf => ?_
        refine Runs.iastoreA d2_53 fA_0 (by decide) hi19 <| Runs.aloadN d2_54 rfl <| Runs.iloadN d2_55 rfl <| Runs.iloadN d2_56 rfl <| ?_
        refine bind_el hf fun r20 hg21 hf => ?_
        exact Runs.callP (N := B4) (W := 0) (as := [.int i1, .int ((gA ob 0 i1) + (1 : Int32))]) (S' := []) d2_57 w42 w43 w44 rfl cw4 ar4 rk2_4_0 (by decide) rfl rfl (X_msgIndex_pay hg21) <| ans1 <| Runs.istoreN (P' := [vr a, vi i1, vi ((gA ob 0 i1) + (1 : Int32)), vi r20, vn]) d2_60 (by decide) rfl <| Runs.iconst d2_61 ci_0 <| Runs.istore (P' := [vr a, vi i1, vi ((gA ob 0 i1) + (1 : Int32)), vi r20, vi (0 : Int32)]) d2_62 (by decide) rfl <| X_broadcast_l64_p NF (sA ob 0 i1 ((gA ob 0 i1) + (1 : Int32))) i1 ((gA ob 0 i1) + (1 : Int32)) r20 (0 : Int32) hf
      · refine Runs.icN d2_32 (flt hc17).1 <| ?_
        obtain rfl := Option.some.inj hf
        exact Runs.bipush d2_35 cb_m3 <| Runs.retI d2_37 rfl ⟨by decide, by decide⟩ ⟨rfl, rfl⟩
    · refine Runs.ifN d2_16 (feq hc15).1 <| ?_
      obtain rfl := Option.some.inj hf
      exact Runs.bipush d2_19 cb_m2 <| Runs.retI d2_21 rfl ⟨by decide, by decide⟩ ⟨rfl, rfl⟩
theorem X_broadcast_pay {C : Ctx} {top : Nat} {a : Nat} {H : List (Nat × Nat × Rec)} {res : Int32 × Rec} {NF : Nat} {ob : Rec} {i1 : Int32} (hf : X_broadcast NF ob i1 = some res) : Pays C B2 [.ref a, .int i1] (top, (a, 9, ob) :: H) (Ans (some (.int res.1)) (top, (a, 9, res.2) :: H)) :=
  Pays.of pnK (Nat.le_of_ble_eq_true rfl) (P := [vr a, vi i1, vn, vn, vn]) 3 rfl (X_broadcast_p ob i1 hf)
def X_exists (ob : Rec) (i1 : Int32) (i2 : Int32) : Option (Int32) :=
  if i1 < (0 : Int32) then
    some (0 : Int32)
  else
    if i1 < (gI ob 0) then
      if i2 < (1 : Int32) then
        some (0 : Int32)
      else
        chk (8 : Int32) i1 <|
        if (gA ob 0 i1) < i2 then
          some (0 : Int32)
        else
          some (1 : Int32)
    else
      some (0 : Int32)
set_option maxRecDepth 65536 in
set_option maxHeartbeats 4000000 in
theorem X_exists_p {C : Ctx} {top : Nat} {a : Nat} {H : List (Nat × Nat × Rec)} {ob : Rec} {res : Int32} (i1 : Int32) (i2 : Int32) (hf : X_exists ob i1 i2 = some res) : Runs C B10 0 0 0 [vr a, vi i1, vi i2] [] (top, (a, 9, ob) :: H) (Ans (some (.int res)) (top, (a, 9, ob) :: H)) := by
  delta X_exists at hf
  refine Runs.iloadN d10_0 rfl <| ?_
  refine ite_el hf (fun hc1 hf => ?_) (fun hc1 hf => ?_)
  · refine Runs.ifY (pc' := 31) d10_1 (tlt hc1).1 (by decide) <| ?_
    obtain rfl := Option.some.inj hf
    exact Runs.iconst d10_31 ci_0 <| Runs.retZ (y := (0 : Int32)) d10_32 rfl ⟨by decide, by decide⟩ rfl ⟨rfl, rfl⟩
  · refine Runs.ifN d10_1 (flt hc1).1 <| ?_
    refine Runs.iloadN d10_4 rfl <| Runs.aloadN d10_5 rfl <| Runs.getI d10_6 w29 fS_0 <| ?_
    refine ite_el hf (fun hc2 hf => ?_) (fun hc2 hf => ?_)
    · refine Runs.icN d10_9 (tlt hc2).2.1 <| ?_
      refine Runs.iloadN d10_12 rfl <| Runs.iconst d10_13 ci_1 <| ?_
      refine ite_el hf (fun hc3 hf => ?_) (fun hc3 hf => ?_)
      · refine Runs.icY (pc' := 31) d10_14 (tlt hc3).1 (by decide) <| ?_
        obtain rfl := Option.some.inj hf
        exact Runs.iconst d10_31 ci_0 <| Runs.retZ (y := (0 : Int32)) d10_32 rfl ⟨by decide, by decide⟩ rfl ⟨rfl, rfl⟩
      · refine Runs.icN d10_14 (flt hc3).1 <| ?_
        refine Runs.iloadN d10_17 rfl <| Runs.aloadN d10_18 rfl <| Runs.getA d10_19 fA_0 w10 (by decide) <| Runs.iloadN d10_22 rfl <| ?_
        refine chk_el hf fun hi4 hf => ?_
        refine Runs.ialoadA d10_23 fA_0 (by decide) hi4 <| ?_
        refine ite_el hf (fun hc5 hf => ?_) (fun hc5 hf => ?_)
        · refine Runs.icY (pc' := 31) d10_24 (tlt hc5).2.2.1 (by decide) <| ?_
          obtain rfl := Option.some.inj hf
          exact Runs.iconst d10_31 ci_0 <| Runs.retZ (y := (0 : Int32)) d10_32 rfl ⟨by decide, by decide⟩ rfl ⟨rfl, rfl⟩
        · refine Runs.icN d10_24 (flt hc5).2.2.1 <| ?_
          obtain rfl := Option.some.inj hf
          exact Runs.iconst d10_27 ci_1 <| Runs.goto (pc' := 32) d10_28 (by decide) <| Runs.retZ (y := (1 : Int32)) d10_32 rfl ⟨by decide, by decide⟩ rfl ⟨rfl, rfl⟩
    · refine Runs.icY (pc' := 31) d10_9 (flt hc2).2.1 (by decide) <| ?_
      obtain rfl := Option.some.inj hf
      exact Runs.iconst d10_31 ci_0 <| Runs.retZ (y := (0 : Int32)) d10_32 rfl ⟨by decide, by decide⟩ rfl ⟨rfl, rfl⟩
theorem X_exists_pay {C : Ctx} {top : Nat} {a : Nat} {H : List (Nat × Nat × Rec)} {ob : Rec} {res : Int32} {i1 : Int32} {i2 : Int32} (hf : X_exists ob i1 i2 = some res) : Pays C B10 [.ref a, .int i1, .int i2] (top, (a, 9, ob) :: H) (Ans (some (.int res)) (top, (a, 9, ob) :: H)) :=
  Pays.of pnK (Nat.le_of_ble_eq_true rfl) (P := [vr a, vi i1, vi i2]) 0 rfl (X_exists_p i1 i2 hf)
def X_copyIndex (ob : Rec) (i1 : Int32) (i2 : Int32) (i3 : Int32) : Option (Int32) :=
  some (((((i1 * (8 : Int32)) + i2) - (1 : Int32)) * (8 : Int32)) + i3)
set_option maxRecDepth 65536 in
set_option maxHeartbeats 4000000 in
theorem X_copyIndex_p {C : Ctx} {top : Nat} {a : Nat} {H : List (Nat × Nat × Rec)} {ob : Rec} {res : Int32} (i1 : Int32) (i2 : Int32) (i3 : Int32) (hf : X_copyIndex ob i1 i2 i3 = some res) : Runs C B11 0 0 0 [vr a, vi i1, vi i2, vi i3] [] (top, (a, 9, ob) :: H) (Ans (some (.int res)) (top, (a, 9, ob) :: H)) := by
  delta X_copyIndex at hf
  obtain rfl := Option.some.inj hf
  exact Runs.iloadN d11_0 rfl <| Runs.bipush d11_1 cb_8 <| Runs.imul d11_3 <| Runs.iloadN d11_4 rfl <| Runs.iadd d11_5 <| Runs.iconst d11_6 ci_1 <| Runs.isub d11_7 <| Runs.bipush d11_8 cb_8 <| Runs.imul d11_10 <| Runs.iloadN d11_11 rfl <| Runs.iadd d11_12 <| Runs.retI d11_13 rfl ⟨by decide, by decide⟩ ⟨rfl, rfl⟩
theorem X_copyIndex_pay {C : Ctx} {top : Nat} {a : Nat} {H : List (Nat × Nat × Rec)} {ob : Rec} {res : Int32} {i1 : Int32} {i2 : Int32} {i3 : Int32} (hf : X_copyIndex ob i1 i2 i3 = some res) : Pays C B11 [.ref a, .int i1, .int i2, .int i3] (top, (a, 9, ob) :: H) (Ans (some (.int res)) (top, (a, 9, ob) :: H)) :=
  Pays.of pnK (Nat.le_of_ble_eq_true rfl) (P := [vr a, vi i1, vi i2, vi i3]) 0 rfl (X_copyIndex_p i1 i2 i3 hf)
def X_isDeliverable_w63 (NF : Nat) (ob : Rec) (k63 : Int32 → Int32 → Int32 → Int32 → Option (Int32)) (i1 : Int32) (i2 : Int32) (i5 : Int32) (i6 : Int32) : Option (Int32) :=
  if i6 < (gI ob 0) then
    if i6 = i2 then
      k63 i1 i2 i5 (i6 + (1 : Int32))
    else
      chk (512 : Int32) ((i5 * (8 : Int32)) + i6) <|
      chk (64 : Int32) ((i1 * (8 : Int32)) + i6) <|
      if (gA ob 2 ((i1 * (8 : Int32)) + i6)) < (gA ob 4 ((i5 * (8 : Int32)) + i6)) then
        some (0 : Int32)
      else
        k63 i1 i2 i5 (i6 + (1 : Int32))
  else
    some (1 : Int32)
def X_isDeliverable_l63 (NF : Nat) (ob : Rec) : Nat → Int32 → Int32 → Int32 → Int32 → Option (Int32)
  | 0, _, _, _, _ => none
  | n + 1, i1, i2, i5, i6 => X_isDeliverable_w63 NF ob (X_isDeliverable_l63 NF ob n) i1 i2 i5 i6
set_option maxRecDepth 65536 in
set_option maxHeartbeats 4000000 in
theorem X_isDeliverable_w63_p {C : Ctx} {top : Nat} {a : Nat} {H : List (Nat × Nat × Rec)} {ob : Rec} {res : Int32} {NF : Nat} (k63 : Int32 → Int32 → Int32 → Int32 → Option (Int32)) (hk63 : ∀ (i1 : Int32) (i2 : Int32) (i5 : Int32) (i6 : Int32), k63 i1 i2 i5 i6 = some res → Runs C B30 0 0 63 [vr a, vi i1, vi i2, vn, vn, vi i5, vi i6] [] (top, (a, 9, ob) :: H) (Ans (some (.int res)) (top, (a, 9, ob) :: H))) (i1 : Int32) (i2 : Int32) (i5 : Int32) (i6 : Int32) (hf : X_isDeliverable_w63 NF ob k63 i1 i2 i5 i6 = some res) : Runs C B30 0 0 63 [vr a, vi i1, vi i2, vn, vn, vi i5, vi i6] [] (top, (a, 9, ob) :: H) (Ans (some (.int res)) (top, (a, 9, ob) :: H)) := by
  delta X_isDeliverable_w63 at hf
  refine Runs.iload d30_63 rfl <| Runs.aloadN d30_65 rfl <| Runs.getI d30_66 w29 fS_0 <| ?_
  refine ite_el hf (fun hc1 hf => ?_) (fun hc1 hf => ?_)
  · refine Runs.icN d30_69 (tlt hc1).2.1 <| ?_
    refine Runs.iload d30_72 rfl <| Runs.iloadN d30_74 rfl <| ?_
    refine ite_el hf (fun hc2 hf => ?_) (fun hc2 hf => ?_)
    · refine Runs.icY (pc' := 108) d30_75 (teq hc2).1 (by decide) <| ?_
      exact Runs.iinc (P' := [vr a, vi i1, vi i2, vn, vn, vi i5, vi (i6 + (1 : Int32))]) d30_108 ci_1 rfl (by decide) rfl <| Runs.goto (pc' := 63) d30_111 (by decide) <| hk63 i1 i2 i5 (i6 + (1 : Int32)) hf
    · refine Runs.icN d30_75 (feq hc2).1 <| ?_
      refine Runs.aloadN d30_78 rfl <| Runs.getA d30_79 fA_4 w19 (by decide) <| Runs.iload d30_82 rfl <| Runs.bipush d30_84 cb_8 <| Runs.imul d30_86 <| Runs.iload d30_87 rfl <| Runs.iadd d30_89 <| ?_
      refine chk_el hf fun hi3 hf => ?_
      refine Runs.ialoadA d30_90 fA_4 (by decide) hi3 <| Runs.aloadN d30_91 rfl <| Runs.getA d30_92 fA_2 w15 (by decide) <| Runs.iloadN d30_95 rfl <| Runs.bipush d30_96 cb_8 <| Runs.imul d30_98 <| Runs.iload d30_99 rfl <| Runs.iadd d30_101 <| ?_
      refine chk_el hf fun hi4 hf => ?_
      refine Runs.ialoadA d30_102 fA_2 (by decide) hi4 <| ?_
      refine ite_el hf (fun hc5 hf => ?_) (fun hc5 hf => ?_)
      · refine Runs.icN d30_103 (tlt hc5).2.2.2 <| ?_
        obtain rfl := Option.some.inj hf
        exact Runs.iconst d30_106 ci_0 <| Runs.retZ (y := (0 : Int32)) d30_107 rfl ⟨by decide, by decide⟩ rfl ⟨rfl, rfl⟩
      · refine Runs.icY (pc' := 108) d30_103 (flt hc5).2.2.2 (by decide) <| ?_
        exact Runs.iinc (P' := [vr a, vi i1, vi i2, vn, vn, vi i5, vi (i6 + (1 : Int32))]) d30_108 ci_1 rfl (by decide) rfl <| Runs.goto (pc' := 63) d30_111 (by decide) <| hk63 i1 i2 i5 (i6 + (1 : Int32)) hf
  · refine Runs.icY (pc' := 114) d30_69 (flt hc1).2.1 (by decide) <| ?_
    obtain rfl := Option.some.inj hf
    exact Runs.iconst d30_114 ci_1 <| Runs.retZ (y := (1 : Int32)) d30_115 rfl ⟨by decide, by decide⟩ rfl ⟨rfl, rfl⟩
theorem X_isDeliverable_l63_p {C : Ctx} {top : Nat} {a : Nat} {H : List (Nat × Nat × Rec)} {ob : Rec} {res : Int32} {NF : Nat} (n : Nat) (i1 : Int32) (i2 : Int32) (i5 : Int32) (i6 : Int32) (hf : X_isDeliverable_l63 NF ob n i1 i2 i5 i6 = some res) : Runs C B30 0 0 63 [vr a, vi i1, vi i2, vn, vn, vi i5, vi i6] [] (top, (a, 9, ob) :: H) (Ans (some (.int res)) (top, (a, 9, ob) :: H)) := by
  induction n generalizing i1 i2 i5 i6 with
  | zero => cases (show (none : Option (Int32)) = some res from hf)
  | succ n ih => exact X_isDeliverable_w63_p (X_isDeliverable_l63 NF ob n) (fun i1 i2 i5 i6 h => ih _ _ _ _ h) i1 i2 i5 i6 hf
def X_isDeliverable (NF : Nat) (ob : Rec) (i1 : Int32) (i2 : Int32) (i3 : Int32) : Option (Int32) :=
  (X_exists ob i2 i3).bind fun r6 =>
  if r6 = (0 : Int32) then
    some (0 : Int32)
  else
    (X_stateIndex ob i1 i2 i3).bind fun r9 =>
    chk (512 : Int32) r9 <|
    if (gA ob 3 r9) = (1 : Int32) then
      chk (64 : Int32) ((i1 * (8 : Int32)) + i2) <|
      if i3 = ((gA ob 2 ((i1 * (8 : Int32)) + i2)) + (1 : Int32)) then
        (X_msgIndex ob i2 i3).bind fun r15 =>
        X_isDeliverable_l63 NF ob NF i1 i2 r15 (0 : Int32)
      else
        some (0 : Int32)
    else
      some (0 : Int32)
set_option maxRecDepth 65536 in
set_option maxHeartbeats 4000000 in
theorem X_isDeliverable_p {C : Ctx} {top : Nat} {a : Nat} {H : List (Nat × Nat × Rec)} {ob : Rec} {res : Int32} {NF : Nat} (i1 : Int32) (i2 : Int32) (i3 : Int32) (hf : X_isDeliverable NF ob i1 i2 i3 = some res) : Runs C B30 0 0 0 [vr a, vi i1, vi i2, vi i3, vn, vn, vn] [] (top, (a, 9, ob) :: H) (Ans (some (.int res)) (top, (a, 9, ob) :: H)) := by
  delta X_isDeliverable at hf
  refine Runs.aloadN d30_0 rfl <| Runs.iloadN d30_1 rfl <| Runs.iloadN d30_2 rfl <| ?_
  refine bind_el hf fun r6 hg7 hf => ?_
  refine Runs.callP (N := B10) (W := 0) (as := [.int i2, .int i3]) (S' := []) d30_3 w68 w69 w70 rfl cw10 ar10 rk30_10_0 (by decide) rfl rfl (X_exists_pay hg7) <| ans1 <| ?_
  refine ite_el hf (fun hc8 hf => ?_) (fun hc8 hf => ?_)
  · refine Runs.ifN d30_6 (teq hc8).2 <| ?_
    obtain rfl := Option.some.inj hf
    exact Runs.iconst d30_9 ci_0 <| Runs.retZ (y := (0 : Int32)) d30_10 rfl ⟨by decide, by decide⟩ rfl ⟨rfl, rfl⟩
  · refine Runs.ifY (pc' := 11) d30_6 (feq hc8).2 (by decide) <| ?_
    refine Runs.aloadN d30_11 rfl <| Runs.iloadN d30_12 rfl <| Runs.iloadN d30_13 rfl <| Runs.iloadN d30_14 rfl <| ?_
    refine bind_el hf fun r9 hg10 hf => ?_
    refine Runs.callP (N := B6) (W := 0) (as := [.int i1, .int i2, .int i3]) (S' := []) d30_15 w50 w51 w52 rfl cw6 ar6 rk30_6_0 (by decide) rfl rfl (X_stateIndex_pay hg10) <| ans1 <| Runs.istore (P' := [vr a, vi i1, vi i2, vi i3, vi r9, vn, vn]) d30_18 (by decide) rfl <| Runs.aloadN d30_20 rfl <| Runs.getA d30_21 fA_3 w17 (by decide) <| Runs.iload d30_24 rfl <| ?_
    refine chk_el hf fun hi11 hf => ?_
    refine Runs.ialoadA d30_26 fA_3 (by decide) hi11 <| Runs.iconst d30_27 ci_1 <| ?_
    refine ite_el hf (fun hc12 hf => ?_) (fun hc12 hf => ?_)
    · refine Runs.icY (pc' := 33) d30_28 (teq hc12).1 (by decide) <| ?_
      refine Runs.iloadN d30_33 rfl <| Runs.aloadN d30_34 rfl <| Runs.getA d30_35 fA_2 w15 (by decide) <| Runs.iloadN d30_38 rfl <| Runs.bipush d30_39 cb_8 <| Runs.imul d30_41 <| Runs.iloadN d30_42 rfl <| Runs.iadd d30_43 <| ?_
      refine chk_el hf fun hi13 hf => ?_
      refine Runs.ialoadA d30_44 fA_2 (by decide) hi13 <| Runs.iconst d30_45 ci_1 <| Runs.iadd d30_46 <| ?_
      refine ite_el hf (fun hc14 hf => ?_) (fun hc14 hf => ?_)
      · refine Runs.icY (pc' := 52) d30_47 (teq hc14).1 (by decide) <| ?_
        refine Runs.aloadN d30_52 rfl <| Runs.iloadN d30_53 rfl <| Runs.iloadN d30_54 rfl <| ?_
        refine bind_el hf fun r15 hg16 hf => ?_
        exact Runs.callP (N := B4) (W := 0) (as := [.int i2, .int i3]) (S' := []) d30_55 w42 w43 w44 rfl cw4 ar4 rk30_4_0 (by decide) rfl rfl (X_msgIndex_pay hg16) <| ans1 <| Runs.istore (P' := [vr a, vi i1, vi i2, vi i3, vi r9, vi r15, vn]) d30_58 (by decide) rfl <| Runs.iconst d30_60 ci_0 <| Runs.istore (P' := [vr a, vi i1, vi i2, vi i3, vi r9, vi r15, vi (0 : Int32)]) d30_61 (by decide) rfl <| Runs.forget [true, true, true, false, false, true, true] rfl <| X_isDeliverable_l63_p NF i1 i2 r15 (0 : Int32) hf
      · refine Runs.icN d30_47 (feq hc14).1 <| ?_
        obtain rfl := Option.some.inj hf
        exact Runs.iconst d30_50 ci_0 <| Runs.retZ (y := (0 : Int32)) d30_51 rfl ⟨by decide, by decide⟩ rfl ⟨rfl, rfl⟩
    · refine Runs.icN d30_28 (feq hc12).1 <| ?_
      obtain rfl := Option.some.inj hf
      exact Runs.iconst d30_31 ci_0 <| Runs.retZ (y := (0 : Int32)) d30_32 rfl ⟨by decide, by decide⟩ rfl ⟨rfl, rfl⟩
theorem X_isDeliverable_pay {C : Ctx} {top : Nat} {a : Nat} {H : List (Nat × Nat × Rec)} {ob : Rec} {res : Int32} {NF : Nat} {i1 : Int32} {i2 : Int32} {i3 : Int32} (hf : X_isDeliverable NF ob i1 i2 i3 = some res) : Pays C B30 [.ref a, .int i1, .int i2, .int i3] (top, (a, 9, ob) :: H) (Ans (some (.int res)) (top, (a, 9, ob) :: H)) :=
  Pays.of pnK (Nat.le_of_ble_eq_true rfl) (P := [vr a, vi i1, vi i2, vi i3, vn, vn, vn]) 3 rfl (X_isDeliverable_p i1 i2 i3 hf)
def X_cascade_b73 (NF : Nat) (k4 : Rec → Int32 → Int32 → Int32 → Option (Int32 × Rec)) (ob : Rec) (i1 : Int32) (i2 : Int32) (i3 : Int32) (i4 : Int32) (i5 : Int32) : Option (Int32 × Rec) :=
  if i4 < (0 : Int32) then
    some (i2, ob)
  else
    (X_deliverAt ob i1 i4 i5).bind fun q8 =>
    k4 q8 i1 (i2 + (1 : Int32)) (i3 + (1 : Int32))
set_option maxRecDepth 65536 in
set_option maxHeartbeats 4000000 in
theorem X_cascade_b73_p {C : Ctx} {top : Nat} {a : Nat} {H : List (Nat × Nat × Rec)} {res : Int32 × Rec} {NF : Nat} (k4 : Rec → Int32 → Int32 → Int32 → Option (Int32 × Rec)) (hk4 : ∀ (ob : Rec) (i1 : Int32) (i2 : Int32) (i3 : Int32), k4 ob i1 i2 i3 = some res → Runs C B29 0 0 4 [vr a, vi i1, vi i2, vi i3, vn, vn, vn, vn] [] (top, (a, 9, ob) :: H) (Ans (some (.int res.1)) (top, (a, 9, res.2) :: H))) (ob : Rec) (i1 : Int32) (i2 : Int32) (i3 : Int32) (i4 : Int32) (i5 : Int32) (hf : X_cascade_b73 NF k4 ob i1 i2 i3 i4 i5 = some res) : Runs C B29 0 0 73 [vr a, vi i1, vi i2, vi i3, vi i4, vi i5, vn, vn] [] (top, (a, 9, ob) :: H) (Ans (some (.int res.1)) (top, (a, 9, res.2) :: H)) := by
  delta X_cascade_b73 at hf
  refine Runs.iload d29_73 rfl <| ?_
  refine ite_el hf (fun hc7 hf => ?_) (fun hc7 hf => ?_)
  · refine Runs.ifN d29_75 (tlt hc7).2.1 <| ?_
    obtain rfl := Option.some.inj hf
    exact Runs.goto (pc' := 99) d29_78 (by decide) <| Runs.iloadN d29_99 rfl <| Runs.retI d29_100 rfl ⟨by decide, by decide⟩ ⟨rfl, rfl⟩
  · refine Runs.ifY (pc' := 81) d29_75 (flt hc7).2.1 (by decide) <| ?_
    refine Runs.aloadN d29_81 rfl <| Runs.iloadN d29_82 rfl <| Runs.iload d29_83 rfl <| Runs.iload d29_85 rfl <| ?_
    refine bind_el hf fun q8 hg9 hf => ?_
    exact Runs.callP (N := B5) (W := 0) (as := [.int i1, .int i4, .int i5]) (S' := []) d29_87 w46 w47 w48 rfl cw5 ar5 rk29_5_0 (by decide) rfl rfl (X_deliverAt_pay hg9) <| ans0 <| Runs.iinc (P' := [vr a, vi i1, vi (i2 + (1 : Int32)), vi i3, vi i4, vi i5, vn, vn]) d29_90 ci_1 rfl (by decide) rfl <| Runs.iinc (P' := [vr a, vi i1, vi (i2 + (1 : Int32)), vi (i3 + (1 : Int32)), vi i4, vi i5, vn, vn]) d29_93 ci_1 rfl (by decide) rfl <| Runs.goto (pc' := 4) d29_96 (by decide) <| Runs.forget [true, true, true, true, false, false, false, false] rfl <| hk4 q8 i1 (i2 + (1 : Int32)) (i3 + (1 : Int32)) hf
def X_cascade_w19 (NF : Nat) (k4 : Rec → Int32 → Int32 → Int32 → Option (Int32 × Rec)) (k19 : Rec → Int32 → Int32 → Int32 → Int32 → Int32 → Int32 → Option (Int32 × Rec)) (ob : Rec) (i1 : Int32) (i2 : Int32) (i3 : Int32) (i4 : Int32) (i5 : Int32) (i6 : Int32) : Option (Int32 × Rec) :=
  if i6 < (gI ob 0) then
    chk (64 : Int32) ((i1 * (8 : Int32)) + i6) <|
    (X_isDeliverable NF ob i1 i6 ((gA ob 2 ((i1 * (8 : Int32)) + i6)) + (1 : Int32))).bind fun r4 =>
    if r4 = (0 : Int32) then
      k19 ob i1 i2 i3 i4 i5 (i6 + (1 : Int32))
    else
      X_cascade_b73 NF k4 ob i1 i2 i3 i6 ((gA ob 2 ((i1 * (8 : Int32)) + i6)) + (1 : Int32))
  else
    X_cascade_b73 NF k4 ob i1 i2 i3 i4 i5
def X_cascade_l19 (NF : Nat) (k4 : Rec → Int32 → Int32 → Int32 → Option (Int32 × Rec)) : Nat → Rec → Int32 → Int32 → Int32 → Int32 → Int32 → Int32 → Option (Int32 × Rec)
  | 0, _, _, _, _, _, _, _ => none
  | n + 1, ob, i1, i2, i3, i4, i5, i6 => X_cascade_w19 NF k4 (X_cascade_l19 NF k4 n) ob i1 i2 i3 i4 i5 i6
set_option maxRecDepth 65536 in
set_option maxHeartbeats 4000000 in
theorem X_cascade_w19_p {C : Ctx} {top : Nat} {a : Nat} {H : List (Nat × Nat × Rec)} {res : Int32 × Rec} {NF : Nat} (k4 : Rec → Int32 → Int32 → Int32 → Option (Int32 × Rec)) (hk4 : ∀ (ob : Rec) (i1 : Int32) (i2 : Int32) (i3 : Int32), k4 ob i1 i2 i3 = some res → Runs C B29 0 0 4 [vr a, vi i1, vi i2, vi i3, vn, vn, vn, vn] [] (top, (a, 9, ob) :: H) (Ans (some (.int res.1)) (top, (a, 9, res.2) :: H))) (k19 : Rec → Int32 → Int32 → Int32 → Int32 → Int32 → Int32 → Option (Int32 × Rec)) (hk19 : ∀ (ob : Rec) (i1 : Int32) (i2 : Int32) (i3 : Int32) (i4 : Int32) (i5 : Int32) (i6 : Int32), k19 ob i1 i2 i3 i4 i5 i6 = some res → Runs C B29 0 0 19 [vr a, vi i1, vi i2, vi i3, vi i4, vi i5, vi i6, vn] [] (top, (a, 9, ob) :: H) (Ans (some (.int res.1)) (top, (a, 9, res.2) :: H))) (ob : Rec) (i1 : Int32) (i2 : Int32) (i3 : Int32) (i4 : Int32) (i5 : Int32) (i6 : Int32) (hf : X_cascade_w19 NF k4 k19 ob i1 i2 i3 i4 i5 i6 = some res) : Runs C B29 0 0 19 [vr a, vi i1, vi i2, vi i3, vi i4, vi i5, vi i6, vn] [] (top, (a, 9, ob) :: H) (Ans (some (.int res.1)) (top, (a, 9, res.2) :: H)) := by
  delta X_cascade_w19 at hf
  refine Runs.iload d29_19 rfl <| Runs.aloadN d29_21 rfl <| Runs.getI d29_22 w29 fS_0 <| ?_
  refine ite_el hf (fun hc2 hf => ?_) (fun hc2 hf => ?_)
  · refine Runs.icN d29_25 (tlt hc2).2.1 <| ?_
    refine Runs.aloadN d29_28 rfl <| Runs.getA d29_29 fA_2 w15 (by decide) <| Runs.iloadN d29_32 rfl <| Runs.bipush d29_33 cb_8 <| Runs.imul d29_35 <| Runs.iload d29_36 rfl <| Runs.iadd d29_38 <| ?_
    refine chk_el hf fun hi3 hf => ?_
    refine Runs.ialoadA d29_39 fA_2 (by decide) hi3 <| Runs.iconst d29_40 ci_1 <| Runs.iadd d29_41 <| Runs.istore (P' := [vr a, vi i1, vi i2, vi i3, vi i4, vi i5, vi i6, vi ((gA ob 2 ((i1 * (8 : Int32)) + i6)) + (1 : Int32))]) d29_42 (by decide) rfl <| Runs.aloadN d29_44 rfl <| Runs.iloadN d29_45 rfl <| Runs.iload d29_46 rfl <| Runs.iload d29_48 rfl <| ?_
    refine bind_el hf fun r4 hg5 hf => ?_
    refine Runs.callP (N := B30) (W := 0) (as := [.int i1, .int i6, .int ((gA ob 2 ((i1 * (8 : Int32)) + i6)) + (1 : Int32))]) (S' := []) d29_50 w160 w161 w162 rfl cw30 ar30 rk29_30_0 (by decide) rfl rfl (X_isDeliverable_pay hg5) <| ans1 <| ?_
    refine ite_el hf (fun hc6 hf => ?_) (fun hc6 hf => ?_)
    · refine Runs.ifY (pc' := 67) d29_53 (teq hc6).1 (by decide) <| ?_
      exact Runs.iinc (P' := [vr a, vi i1, vi i2, vi i3, vi i4, vi i5, vi (i6 + (1 : Int32)), vi ((gA ob 2 ((i1 * (8 : Int32)) + i6)) + (1 : Int32))]) d29_67 ci_1 rfl (by decide) rfl <| Runs.goto (pc' := 19) d29_70 (by decide) <| Runs.forget [true, true, true, true, true, true, true, false] rfl <| hk19 ob i1 i2 i3 i4 i5 (i6 + (1 : Int32)) hf
    · refine Runs.ifN d29_53 (feq hc6).1 <| ?_
      exact Runs.iload d29_56 rfl <| Runs.istore (P' := [vr a, vi i1, vi i2, vi i3, vi i6, vi i5, vi i6, vi ((gA ob 2 ((i1 * (8 : Int32)) + i6)) + (1 : Int32))]) d29_58 (by decide) rfl <| Runs.iload d29_60 rfl <| Runs.istore (P' := [vr a, vi i1, vi i2, vi i3, vi i6, vi ((gA ob 2 ((i1 * (8 : Int32)) + i6)) + (1 : Int32)), vi i6, vi ((gA ob 2 ((i1 * (8 : Int32)) + i6)) + (1 : Int32))]) d29_62 (by decide) rfl <| Runs.goto (pc' := 73) d29_64 (by decide) <| Runs.forget [true, true, true, true, true, true, false, false] rfl <| X_cascade_b73_p k4 hk4 ob i1 i2 i3 i6 ((gA ob 2 ((i1 * (8 : Int32)) + i6)) + (1 : Int32)) hf
  · exact Runs.icY (pc' := 73) d29_25 (flt hc2).2.1 (by decide) <| Runs.forget [true, true, true, true, true, true, false, false] rfl <| X_cascade_b73_p k4 hk4 ob i1 i2 i3 i4 i5 hf
theorem X_cascade_l19_p {C : Ctx} {top : Nat} {a : Nat} {H : List (Nat × Nat × Rec)} {res : Int32 × Rec} {NF : Nat} (k4 : Rec → Int32 → Int32 → Int32 → Option (Int32 × Rec)) (hk4 : ∀ (ob : Rec) (i1 : Int32) (i2 : Int32) (i3 : Int32), k4 ob i1 i2 i3 = some res → Runs C B29 0 0 4 [vr a, vi i1, vi i2, vi i3, vn, vn, vn, vn] [] (top, (a, 9, ob) :: H) (Ans (some (.int res.1)) (top, (a, 9, res.2) :: H))) (n : Nat) (ob : Rec) (i1 : Int32) (i2 : Int32) (i3 : Int32) (i4 : Int32) (i5 : Int32) (i6 : Int32) (hf : X_cascade_l19 NF k4 n ob i1 i2 i3 i4 i5 i6 = some res) : Runs C B29 0 0 19 [vr a, vi i1, vi i2, vi i3, vi i4, vi i5, vi i6, vn] [] (top, (a, 9, ob) :: H) (Ans (some (.int res.1)) (top, (a, 9, res.2) :: H)) := by
  induction n generalizing ob i1 i2 i3 i4 i5 i6 with
  | zero => cases (show (none : Option (Int32 × Rec)) = some res from hf)
  | succ n ih => exact X_cascade_w19_p k4 hk4 (X_cascade_l19 NF k4 n) (fun ob i1 i2 i3 i4 i5 i6 h => ih _ _ _ _ _ _ _ h) ob i1 i2 i3 i4 i5 i6 hf
def X_cascade_w4 (NF : Nat) (k4 : Rec → Int32 → Int32 → Int32 → Option (Int32 × Rec)) (ob : Rec) (i1 : Int32) (i2 : Int32) (i3 : Int32) : Option (Int32 × Rec) :=
  if i3 < (65 : Int32) then
    X_cascade_l19 NF k4 NF ob i1 i2 i3 (-1 : Int32) (0 : Int32) (0 : Int32)
  else
    some (i2, ob)
def X_cascade_l4 (NF : Nat) : Nat → Rec → Int32 → Int32 → Int32 → Option (Int32 × Rec)
  | 0, _, _, _, _ => none
  | n + 1, ob, i1, i2, i3 => X_cascade_w4 NF (X_cascade_l4 NF n) ob i1 i2 i3
set_option maxRecDepth 65536 in
set_option maxHeartbeats 4000000 in
theorem X_cascade_w4_p {C : Ctx} {top : Nat} {a : Nat} {H : List (Nat × Nat × Rec)} {res : Int32 × Rec} {NF : Nat} (k4 : Rec → Int32 → Int32 → Int32 → Option (Int32 × Rec)) (hk4 : ∀ (ob : Rec) (i1 : Int32) (i2 : Int32) (i3 : Int32), k4 ob i1 i2 i3 = some res → Runs C B29 0 0 4 [vr a, vi i1, vi i2, vi i3, vn, vn, vn, vn] [] (top, (a, 9, ob) :: H) (Ans (some (.int res.1)) (top, (a, 9, res.2) :: H))) (ob : Rec) (i1 : Int32) (i2 : Int32) (i3 : Int32) (hf : X_cascade_w4 NF k4 ob i1 i2 i3 = some res) : Runs C B29 0 0 4 [vr a, vi i1, vi i2, vi i3, vn, vn, vn, vn] [] (top, (a, 9, ob) :: H) (Ans (some (.int res.1)) (top, (a, 9, res.2) :: H)) := by
  delta X_cascade_w4 at hf
  refine Runs.iloadN d29_4 rfl <| Runs.bipush d29_5 cb_65 <| ?_
  refine ite_el hf (fun hc1 hf => ?_) (fun hc1 hf => ?_)
  · refine Runs.icN d29_7 (tlt hc1).2.1 <| ?_
    exact Runs.iconst d29_10 ci_m1 <| Runs.istore (P' := [vr a, vi i1, vi i2, vi i3, vi (-1 : Int32), vn, vn, vn]) d29_11 (by decide) rfl <| Runs.iconst d29_13 ci_0 <| Runs.istore (P' := [vr a, vi i1, vi i2, vi i3, vi (-1 : Int32), vi (0 : Int32), vn, vn]) d29_14 (by decide) rfl <| Runs.iconst d29_16 ci_0 <| Runs.istore (P' := [vr a, vi i1, vi i2, vi i3, vi (-1 : Int32), vi (0 : Int32), vi (0 : Int32), vn]) d29_17 (by decide) rfl <| X_cascade_l19_p k4 hk4 NF ob i1 i2 i3 (-1 : Int32) (0 : Int32) (0 : Int32) hf
  · refine Runs.icY (pc' := 99) d29_7 (flt hc1).2.1 (by decide) <| ?_
    obtain rfl := Option.some.inj hf
    exact Runs.iloadN d29_99 rfl <| Runs.retI d29_100 rfl ⟨by decide, by decide⟩ ⟨rfl, rfl⟩
theorem X_cascade_l4_p {C : Ctx} {top : Nat} {a : Nat} {H : List (Nat × Nat × Rec)} {res : Int32 × Rec} {NF : Nat} (n : Nat) (ob : Rec) (i1 : Int32) (i2 : Int32) (i3 : Int32) (hf : X_cascade_l4 NF n ob i1 i2 i3 = some res) : Runs C B29 0 0 4 [vr a, vi i1, vi i2, vi i3, vn, vn, vn, vn] [] (top, (a, 9, ob) :: H) (Ans (some (.int res.1)) (top, (a, 9, res.2) :: H)) := by
  induction n generalizing ob i1 i2 i3 with
  | zero => cases (show (none : Option (Int32 × Rec)) = some res from hf)
  | succ n ih => exact X_cascade_w4_p (X_cascade_l4 NF n) (fun ob i1 i2 i3 h => ih _ _ _ _ h) ob i1 i2 i3 hf
def X_cascade (NF : Nat) (ob : Rec) (i1 : Int32) : Option (Int32 × Rec) :=
  X_cascade_l4 NF NF ob i1 (0 : Int32) (0 : Int32)
set_option maxRecDepth 65536 in
set_option maxHeartbeats 4000000 in
theorem X_cascade_p {C : Ctx} {top : Nat} {a : Nat} {H : List (Nat × Nat × Rec)} {res : Int32 × Rec} {NF : Nat} (ob : Rec) (i1 : Int32) (hf : X_cascade NF ob i1 = some res) : Runs C B29 0 0 0 [vr a, vi i1, vn, vn, vn, vn, vn, vn] [] (top, (a, 9, ob) :: H) (Ans (some (.int res.1)) (top, (a, 9, res.2) :: H)) := by
  delta X_cascade at hf
  exact Runs.iconst d29_0 ci_0 <| Runs.istoreN (P' := [vr a, vi i1, vi (0 : Int32), vn, vn, vn, vn, vn]) d29_1 (by decide) rfl <| Runs.iconst d29_2 ci_0 <| Runs.istoreN (P' := [vr a, vi i1, vi (0 : Int32), vi (0 : Int32), vn, vn, vn, vn]) d29_3 (by decide) rfl <| X_cascade_l4_p NF ob i1 (0 : Int32) (0 : Int32) hf
theorem X_cascade_pay {C : Ctx} {top : Nat} {a : Nat} {H : List (Nat × Nat × Rec)} {res : Int32 × Rec} {NF : Nat} {ob : Rec} {i1 : Int32} (hf : X_cascade NF ob i1 = some res) : Pays C B29 [.ref a, .int i1] (top, (a, 9, ob) :: H) (Ans (some (.int res.1)) (top, (a, 9, res.2) :: H)) :=
  Pays.of pnK (Nat.le_of_ble_eq_true rfl) (P := [vr a, vi i1, vn, vn, vn, vn, vn, vn]) 6 rfl (X_cascade_p ob i1 hf)
def X_receive (NF : Nat) (ob : Rec) (i1 : Int32) (i2 : Int32) (i3 : Int32) : Option (Int32 × Rec) :=
  (X_validProc ob i1).bind fun r1 =>
  if r1 = (0 : Int32) then
    some ((-1 : Int32), ob)
  else
    (X_exists ob i2 i3).bind fun r4 =>
    if r4 = (0 : Int32) then
      some ((-1 : Int32), ob)
    else
      chk (8 : Int32) i1 <|
      if (gA ob 1 i1) = (0 : Int32) then
        (X_copyIndex ob i2 i3 i1).bind fun r9 =>
        chk (512 : Int32) r9 <|
        if (gA ob 5 r9) = (0 : Int32) then
          some ((-4 : Int32), ob)
        else
          chk (512 : Int32) r9 <|
          chk (512 : Int32) r9 <|
          (X_stateIndex (sA ob 5 r9 ((gA ob 5 r9) - (1 : Int32))) i1 i2 i3).bind fun r15 =>
          chk (512 : Int32) r15 <|
          if (gA ob 3 r15) = (0 : Int32) then
            chk (512 : Int32) r15 <|
            bind2 (X_cascade NF (sA (sA ob 5 r9 ((gA ob 5 r9) - (1 : Int32))) 3 r15 (1 : Int32)) i1) fun r20 q21 =>
            some (r20, q21)
          else
            some ((-5 : Int32), (sA ob 5 r9 ((gA ob 5 r9) - (1 : Int32))))
      else
        some ((-2 : Int32), ob)
set_option maxRecDepth 65536 in
set_option maxHeartbeats 4000000 in
theorem X_receive_p {C : Ctx} {top : Nat} {a : Nat} {H : List (Nat × Nat × Rec)} {res : Int32 × Rec} {NF : Nat} (ob : Rec) (i1 : Int32) (i2 : Int32) (i3 : Int32) (hf : X_receive NF ob i1 i2 i3 = some res) : Runs C B23 0 0 0 [vr a, vi i1, vi i2, vi i3, vn, vn] [] (top, (a, 9, ob) :: H) (Ans (some (.int res.1)) (top, (a, 9, res.2) :: H)) := by
  delta X_receive at hf
  refine Runs.aloadN d23_0 rfl <| Runs.iloadN d23_1 rfl <| ?_
  refine bind_el hf fun r1 hg2 hf => ?_
  refine Runs.callP (N := B3) (W := 0) (as := [.int i1]) (S' := []) d23_2 w38 w39 w40 rfl cw3 ar3 rk23_3_0 (by decide) rfl rfl (X_validProc_pay hg2) <| ans1 <| ?_
  refine ite_el hf (fun hc3 hf => ?_) (fun hc3 hf => ?_)
  · refine Runs.ifY (pc' := 17) d23_5 (teq hc3).1 (by decide) <| ?_
    obtain rfl := Option.some.inj hf
    exact Runs.iconst d23_17 ci_m1 <| Runs.retI d23_18 rfl ⟨by decide, by decide⟩ ⟨rfl, rfl⟩
  · refine Runs.ifN d23_5 (feq hc3).1 <| ?_
    refine Runs.aloadN d23_8 rfl <| Runs.iloadN d23_9 rfl <| Runs.iloadN d23_10 rfl <| ?_
    refine bind_el hf fun r4 hg5 hf => ?_
    refine Runs.callP (N := B10) (W := 0) (as := [.int i2, .int i3]) (S' := []) d23_11 w68 w69 w70 rfl cw10 ar10 rk23_10_0 (by decide) rfl rfl (X_exists_pay hg5) <| ans1 <| ?_
    refine ite_el hf (fun hc6 hf => ?_) (fun hc6 hf => ?_)
    · refine Runs.ifN d23_14 (teq hc6).2 <| ?_
      obtain rfl := Option.some.inj hf
      exact Runs.iconst d23_17 ci_m1 <| Runs.retI d23_18 rfl ⟨by decide, by decide⟩ ⟨rfl, rfl⟩
    · refine Runs.ifY (pc' := 19) d23_14 (feq hc6).2 (by decide) <| ?_
      refine Runs.aloadN d23_19 rfl <| Runs.getA d23_20 fA_1 w13 (by decide) <| Runs.iloadN d23_23 rfl <| ?_
      refine chk_el hf fun hi7 hf => ?_
      refine Runs.baloadA d23_24 fA_1 (by decide) hi7 <| ?_
      refine ite_el hf (fun hc8 hf => ?_) (fun hc8 hf => ?_)
      · refine Runs.ifY (pc' := 31) d23_25 (teq hc8).1 (by decide) <| ?_
        refine Runs.aloadN d23_31 rfl <| Runs.iloadN d23_32 rfl <| Runs.iloadN d23_33 rfl <| Runs.iloadN d23_34 rfl <| ?_
        refine bind_el hf fun r9 hg10 hf => ?_
        refine Runs.callP (N := B11) (W := 0) (as := [.int i2, .int i3, .int i1]) (S' := []) d23_35 w72 w73 w74 rfl cw11 ar11 rk23_11_0 (by decide) rfl rfl (X_copyIndex_pay hg10) <| ans1 <| Runs.istore (P' := [vr a, vi i1, vi i2, vi i3, vi r9, vn]) d23_38 (by decide) rfl <| Runs.aloadN d23_40 rfl <| Runs.getA d23_41 fA_5 w21 (by decide) <| Runs.iload d23_44 rfl <| ?_
        refine chk_el hf fun hi11 hf => ?_
        refine Runs.ialoadA d23_46 fA_5 (by decide) hi11 <| ?_
        refine ite_el hf (fun hc12 hf => ?_) (fun hc12 hf => ?_)
        · refine Runs.ifN d23_47 (teq hc12).2 <| ?_
          obtain rfl := Option.some.inj hf
          exact Runs.bipush d23_50 cb_m4 <| Runs.retI d23_52 rfl ⟨by decide, by decide⟩ ⟨rfl, rfl⟩
        · refine Runs.ifY (pc' := 53) d23_47 (feq hc12).2 (by decide) <| ?_
          refine Runs.aloadN d23_53 rfl <| Runs.getA d23_54 fA_5 w21 (by decide) <| Runs.iload d23_57 rfl <| Runs.aloadN d23_59 rfl <| Runs.getA d23_60 fA_5 w21 (by decide) <| Runs.iload d23_63 rfl <| ?_
          refine chk_el hf fun hi13 hf => ?_
          refine Runs.ialoadA d23_65 fA_5 (by decide) hi13 <| Runs.iconst d23_66 ci_1 <| Runs.isub d23_67 <| ?_
          refine chk_el hf fun hi14 hf => ?_
          refine Runs.iastoreA d23_68 fA_5 (by decide) hi14 <| Runs.aloadN d23_69 rfl <| Runs.iloadN d23_70 rfl <| Runs.iloadN d23_71 rfl <| Runs.iloadN d23_72 rfl <| ?_
          refine bind_el hf fun r15 hg16 hf => ?_
          refine Runs.callP (N := B6) (W := 0) (as := [.int i1, .int i2, .int i3]) (S' := []) d23_73 w50 w51 w52 rfl cw6 ar6 rk23_6_0 (by decide) rfl rfl (X_stateIndex_pay hg16) <| ans1 <| Runs.istore (P' := [vr a, vi i1, vi i2, vi i3, vi r9, vi r15]) d23_76 (by decide) rfl <| Runs.aloadN d23_78 rfl <| Runs.getA d23_79 fA_3 w17 (by decide) <| Runs.iload d23_82 rfl <| ?_
          refine chk_el hf fun hi17 hf => ?_
          refine Runs.ialoadA d23_84 fA_3 (by decide) hi17 <| ?_
          refine ite_el hf (fun hc18 hf => ?_) (fun hc18 hf => ?_)
          · refine Runs.ifY (pc' := 91) d23_85 (teq hc18).1 (by decide) <| ?_
            refine Runs.aloadN d23_91 rfl <| Runs.getA d23_92 fA_3 w17 (by decide) <| Runs.iload d23_95 rfl <| Runs.iconst d23_97 ci_1 <| ?_
            refine chk_el hf fun hi19 hf => ?_
            refine Runs.iastoreA d23_98 fA_3 (by decide) hi19 <| Runs.aloadN d23_99 rfl <| Runs.iloadN d23_100 rfl <| ?_
            refine bind2_el hf fun r20 q21 hg22 hf => ?_
            obtain rfl := Option.some.inj hf
            exact Runs.callP (N := B29) (W := 0) (as := [.int i1]) (S' := []) d23_101 w156 w157 w158 rfl cw29 ar29 rk23_29_0 (by decide) rfl rfl (X_cascade_pay hg22) <| ans1 <| Runs.retI d23_104 rfl ⟨by decide, by decide⟩ ⟨rfl, rfl⟩
          · refine Runs.ifN d23_85 (feq hc18).1 <| ?_
            obtain rfl := Option.some.inj hf
            exact Runs.bipush d23_88 cb_m5 <| Runs.retI d23_90 rfl ⟨by decide, by decide⟩ ⟨rfl, rfl⟩
      · refine Runs.ifN d23_25 (feq hc8).1 <| ?_
        obtain rfl := Option.some.inj hf
        exact Runs.bipush d23_28 cb_m2 <| Runs.retI d23_30 rfl ⟨by decide, by decide⟩ ⟨rfl, rfl⟩
theorem X_receive_pay {C : Ctx} {top : Nat} {a : Nat} {H : List (Nat × Nat × Rec)} {res : Int32 × Rec} {NF : Nat} {ob : Rec} {i1 : Int32} {i2 : Int32} {i3 : Int32} (hf : X_receive NF ob i1 i2 i3 = some res) : Pays C B23 [.ref a, .int i1, .int i2, .int i3] (top, (a, 9, ob) :: H) (Ans (some (.int res.1)) (top, (a, 9, res.2) :: H)) :=
  Pays.of pnK (Nat.le_of_ble_eq_true rfl) (P := [vr a, vi i1, vi i2, vi i3, vn, vn]) 2 rfl (X_receive_p ob i1 i2 i3 hf)
def X_duplicate (ob : Rec) (i1 : Int32) (i2 : Int32) (i3 : Int32) : Option (Int32 × Rec) :=
  (X_exists ob i1 i2).bind fun r1 =>
  if r1 = (0 : Int32) then
    some ((-1 : Int32), ob)
  else
    (X_validProc ob i3).bind fun r4 =>
    if r4 = (0 : Int32) then
      some ((-1 : Int32), ob)
    else
      (X_copyIndex ob i1 i2 i3).bind fun r7 =>
      chk (512 : Int32) r7 <|
      if (gA ob 5 r7) = (0 : Int32) then
        some ((-4 : Int32), ob)
      else
        chk (512 : Int32) r7 <|
        if (gA ob 5 r7) < (3 : Int32) then
          chk (512 : Int32) r7 <|
          chk (512 : Int32) r7 <|
          chk (512 : Int32) r7 <|
          some ((gA (sA ob 5 r7 ((gA ob 5 r7) + (1 : Int32))) 5 r7), (sA ob 5 r7 ((gA ob 5 r7) + (1 : Int32))))
        else
          some ((-3 : Int32), ob)
set_option maxRecDepth 65536 in
set_option maxHeartbeats 4000000 in
theorem X_duplicate_p {C : Ctx} {top : Nat} {a : Nat} {H : List (Nat × Nat × Rec)} {res : Int32 × Rec} (ob : Rec) (i1 : Int32) (i2 : Int32) (i3 : Int32) (hf : X_duplicate ob i1 i2 i3 = some res) : Runs C B20 0 0 0 [vr a, vi i1, vi i2, vi i3, vn] [] (top, (a, 9, ob) :: H) (Ans (some (.int res.1)) (top, (a, 9, res.2) :: H)) := by
  delta X_duplicate at hf
  refine Runs.aloadN d20_0 rfl <| Runs.iloadN d20_1 rfl <| Runs.iloadN d20_2 rfl <| ?_
  refine bind_el hf fun r1 hg2 hf => ?_
  refine Runs.callP (N := B10) (W := 0) (as := [.int i1, .int i2]) (S' := []) d20_3 w68 w69 w70 rfl cw10 ar10 rk20_10_0 (by decide) rfl rfl (X_exists_pay hg2) <| ans1 <| ?_
  refine ite_el hf (fun hc3 hf => ?_) (fun hc3 hf => ?_)
  · refine Runs.ifY (pc' := 17) d20_6 (teq hc3).1 (by decide) <| ?_
    obtain rfl := Option.some.inj hf
    exact Runs.iconst d20_17 ci_m1 <| Runs.retI d20_18 rfl ⟨by decide, by decide⟩ ⟨rfl, rfl⟩
  · refine Runs.ifN d20_6 (feq hc3).1 <| ?_
    refine Runs.aloadN d20_9 rfl <| Runs.iloadN d20_10 rfl <| ?_
    refine bind_el hf fun r4 hg5 hf => ?_
    refine Runs.callP (N := B3) (W := 0) (as := [.int i3]) (S' := []) d20_11 w38 w39 w40 rfl cw3 ar3 rk20_3_0 (by decide) rfl rfl (X_validProc_pay hg5) <| ans1 <| ?_
    refine ite_el hf (fun hc6 hf => ?_) (fun hc6 hf => ?_)
    · refine Runs.ifN d20_14 (teq hc6).2 <| ?_
      obtain rfl := Option.some.inj hf
      exact Runs.iconst d20_17 ci_m1 <| Runs.retI d20_18 rfl ⟨by decide, by decide⟩ ⟨rfl, rfl⟩
    · refine Runs.ifY (pc' := 19) d20_14 (feq hc6).2 (by decide) <| ?_
      refine Runs.aloadN d20_19 rfl <| Runs.iloadN d20_20 rfl <| Runs.iloadN d20_21 rfl <| Runs.iloadN d20_22 rfl <| ?_
      refine bind_el hf fun r7 hg8 hf => ?_
      refine Runs.callP (N := B11) (W := 0) (as := [.int i1, .int i2, .int i3]) (S' := []) d20_23 w72 w73 w74 rfl cw11 ar11 rk20_11_0 (by decide) rfl rfl (X_copyIndex_pay hg8) <| ans1 <| Runs.istore (P' := [vr a, vi i1, vi i2, vi i3, vi r7]) d20_26 (by decide) rfl <| Runs.aloadN d20_28 rfl <| Runs.getA d20_29 fA_5 w21 (by decide) <| Runs.iload d20_32 rfl <| ?_
      refine chk_el hf fun hi9 hf => ?_
      refine Runs.ialoadA d20_34 fA_5 (by decide) hi9 <| ?_
      refine ite_el hf (fun hc10 hf => ?_) (fun hc10 hf => ?_)
      · refine Runs.ifN d20_35 (teq hc10).2 <| ?_
        obtain rfl := Option.some.inj hf
        exact Runs.bipush d20_38 cb_m4 <| Runs.retI d20_40 rfl ⟨by decide, by decide⟩ ⟨rfl, rfl⟩
      · refine Runs.ifY (pc' := 41) d20_35 (feq hc10).2 (by decide) <| ?_
        refine Runs.aloadN d20_41 rfl <| Runs.getA d20_42 fA_5 w21 (by decide) <| Runs.iload d20_45 rfl <| ?_
        refine chk_el hf fun hi11 hf => ?_
        refine Runs.ialoadA d20_47 fA_5 (by decide) hi11 <| Runs.iconst d20_48 ci_3 <| ?_
        refine ite_el hf (fun hc12 hf => ?_) (fun hc12 hf => ?_)
        · refine Runs.icY (pc' := 55) d20_49 (tlt hc12).1 (by decide) <| ?_
          refine Runs.aloadN d20_55 rfl <| Runs.getA d20_56 fA_5 w21 (by decide) <| Runs.iload d20_59 rfl <| Runs.aloadN d20_61 rfl <| Runs.getA d20_62 fA_5 w21 (by decide) <| Runs.iload d20_65 rfl <| ?_
          refine chk_el hf fun hi13 hf => ?_
          refine Runs.ialoadA d20_67 fA_5 (by decide) hi13 <| Runs.iconst d20_68 ci_1 <| Runs.iadd d20_69 <| ?_
          refine chk_el hf fun hi14 hf => ?_
          refine Runs.iastoreA d20_70 fA_5 (by decide) hi14 <| Runs.aloadN d20_71 rfl <| Runs.getA d20_72 fA_5 w21 (by decide) <| Runs.iload d20_75 rfl <| ?_
          refine chk_el hf fun hi15 hf => ?_
          obtain rfl := Option.some.inj hf
          exact Runs.ialoadA d20_77 fA_5 (by decide) hi15 <| Runs.retI d20_78 rfl ⟨by decide, by decide⟩ ⟨rfl, rfl⟩
        · refine Runs.icN d20_49 (flt hc12).1 <| ?_
          obtain rfl := Option.some.inj hf
          exact Runs.bipush d20_52 cb_m3 <| Runs.retI d20_54 rfl ⟨by decide, by decide⟩ ⟨rfl, rfl⟩
theorem X_duplicate_pay {C : Ctx} {top : Nat} {a : Nat} {H : List (Nat × Nat × Rec)} {res : Int32 × Rec} {ob : Rec} {i1 : Int32} {i2 : Int32} {i3 : Int32} (hf : X_duplicate ob i1 i2 i3 = some res) : Pays C B20 [.ref a, .int i1, .int i2, .int i3] (top, (a, 9, ob) :: H) (Ans (some (.int res.1)) (top, (a, 9, res.2) :: H)) :=
  Pays.of pnK (Nat.le_of_ble_eq_true rfl) (P := [vr a, vi i1, vi i2, vi i3, vn]) 1 rfl (X_duplicate_p ob i1 i2 i3 hf)
def X_drop (ob : Rec) (i1 : Int32) (i2 : Int32) (i3 : Int32) : Option (Int32 × Rec) :=
  (X_exists ob i1 i2).bind fun r1 =>
  if r1 = (0 : Int32) then
    some ((-1 : Int32), ob)
  else
    (X_validProc ob i3).bind fun r4 =>
    if r4 = (0 : Int32) then
      some ((-1 : Int32), ob)
    else
      (X_copyIndex ob i1 i2 i3).bind fun r7 =>
      chk (512 : Int32) r7 <|
      if (gA ob 5 r7) = (0 : Int32) then
        some ((-4 : Int32), ob)
      else
        chk (512 : Int32) r7 <|
        chk (512 : Int32) r7 <|
        chk (512 : Int32) r7 <|
        some ((gA (sA ob 5 r7 ((gA ob 5 r7) - (1 : Int32))) 5 r7), (sA ob 5 r7 ((gA ob 5 r7) - (1 : Int32))))
set_option maxRecDepth 65536 in
set_option maxHeartbeats 4000000 in
theorem X_drop_p {C : Ctx} {top : Nat} {a : Nat} {H : List (Nat × Nat × Rec)} {res : Int32 × Rec} (ob : Rec) (i1 : Int32) (i2 : Int32) (i3 : Int32) (hf : X_drop ob i1 i2 i3 = some res) : Runs C B25 0 0 0 [vr a, vi i1, vi i2, vi i3, vn] [] (top, (a, 9, ob) :: H) (Ans (some (.int res.1)) (top, (a, 9, res.2) :: H)) := by
  delta X_drop at hf
  refine Runs.aloadN d25_0 rfl <| Runs.iloadN d25_1 rfl <| Runs.iloadN d25_2 rfl <| ?_
  refine bind_el hf fun r1 hg2 hf => ?_
  refine Runs.callP (N := B10) (W := 0) (as := [.int i1, .int i2]) (S' := []) d25_3 w68 w69 w70 rfl cw10 ar10 rk25_10_0 (by decide) rfl rfl (X_exists_pay hg2) <| ans1 <| ?_
  refine ite_el hf (fun hc3 hf => ?_) (fun hc3 hf => ?_)
  · refine Runs.ifY (pc' := 17) d25_6 (teq hc3).1 (by decide) <| ?_
    obtain rfl := Option.some.inj hf
    exact Runs.iconst d25_17 ci_m1 <| Runs.retI d25_18 rfl ⟨by decide, by decide⟩ ⟨rfl, rfl⟩
  · refine Runs.ifN d25_6 (feq hc3).1 <| ?_
    refine Runs.aloadN d25_9 rfl <| Runs.iloadN d25_10 rfl <| ?_
    refine bind_el hf fun r4 hg5 hf => ?_
    refine Runs.callP (N := B3) (W := 0) (as := [.int i3]) (S' := []) d25_11 w38 w39 w40 rfl cw3 ar3 rk25_3_0 (by decide) rfl rfl (X_validProc_pay hg5) <| ans1 <| ?_
    refine ite_el hf (fun hc6 hf => ?_) (fun hc6 hf => ?_)
    · refine Runs.ifN d25_14 (teq hc6).2 <| ?_
      obtain rfl := Option.some.inj hf
      exact Runs.iconst d25_17 ci_m1 <| Runs.retI d25_18 rfl ⟨by decide, by decide⟩ ⟨rfl, rfl⟩
    · refine Runs.ifY (pc' := 19) d25_14 (feq hc6).2 (by decide) <| ?_
      refine Runs.aloadN d25_19 rfl <| Runs.iloadN d25_20 rfl <| Runs.iloadN d25_21 rfl <| Runs.iloadN d25_22 rfl <| ?_
      refine bind_el hf fun r7 hg8 hf => ?_
      refine Runs.callP (N := B11) (W := 0) (as := [.int i1, .int i2, .int i3]) (S' := []) d25_23 w72 w73 w74 rfl cw11 ar11 rk25_11_0 (by decide) rfl rfl (X_copyIndex_pay hg8) <| ans1 <| Runs.istore (P' := [vr a, vi i1, vi i2, vi i3, vi r7]) d25_26 (by decide) rfl <| Runs.aloadN d25_28 rfl <| Runs.getA d25_29 fA_5 w21 (by decide) <| Runs.iload d25_32 rfl <| ?_
      refine chk_el hf fun hi9 hf => ?_
      refine Runs.ialoadA d25_34 fA_5 (by decide) hi9 <| ?_
      refine ite_el hf (fun hc10 hf => ?_) (fun hc10 hf => ?_)
      · refine Runs.ifN d25_35 (teq hc10).2 <| ?_
        obtain rfl := Option.some.inj hf
        exact Runs.bipush d25_38 cb_m4 <| Runs.retI d25_40 rfl ⟨by decide, by decide⟩ ⟨rfl, rfl⟩
      · refine Runs.ifY (pc' := 41) d25_35 (feq hc10).2 (by decide) <| ?_
        refine Runs.aloadN d25_41 rfl <| Runs.getA d25_42 fA_5 w21 (by decide) <| Runs.iload d25_45 rfl <| Runs.aloadN d25_47 rfl <| Runs.getA d25_48 fA_5 w21 (by decide) <| Runs.iload d25_51 rfl <| ?_
        refine chk_el hf fun hi11 hf => ?_
        refine Runs.ialoadA d25_53 fA_5 (by decide) hi11 <| Runs.iconst d25_54 ci_1 <| Runs.isub d25_55 <| ?_
        refine chk_el hf fun hi12 hf => ?_
        refine Runs.iastoreA d25_56 fA_5 (by decide) hi12 <| Runs.aloadN d25_57 rfl <| Runs.getA d25_58 fA_5 w21 (by decide) <| Runs.iload d25_61 rfl <| ?_
        refine chk_el hf fun hi13 hf => ?_
        obtain rfl := Option.some.inj hf
        exact Runs.ialoadA d25_63 fA_5 (by decide) hi13 <| Runs.retI d25_64 rfl ⟨by decide, by decide⟩ ⟨rfl, rfl⟩
theorem X_drop_pay {C : Ctx} {top : Nat} {a : Nat} {H : List (Nat × Nat × Rec)} {res : Int32 × Rec} {ob : Rec} {i1 : Int32} {i2 : Int32} {i3 : Int32} (hf : X_drop ob i1 i2 i3 = some res) : Pays C B25 [.ref a, .int i1, .int i2, .int i3] (top, (a, 9, ob) :: H) (Ans (some (.int res.1)) (top, (a, 9, res.2) :: H)) :=
  Pays.of pnK (Nat.le_of_ble_eq_true rfl) (P := [vr a, vi i1, vi i2, vi i3, vn]) 1 rfl (X_drop_p ob i1 i2 i3 hf)
def X_retransmit (ob : Rec) (i1 : Int32) (i2 : Int32) (i3 : Int32) (i4 : Int32) : Option (Int32 × Rec) :=
  (X_validProc ob i1).bind fun r1 =>
  if r1 = (0 : Int32) then
    some ((-1 : Int32), ob)
  else
    (X_validProc ob i2).bind fun r4 =>
    if r4 = (0 : Int32) then
      some ((-1 : Int32), ob)
    else
      if i1 = i2 then
        some ((-1 : Int32), ob)
      else
        (X_exists ob i3 i4).bind fun r8 =>
        if r8 = (0 : Int32) then
          some ((-1 : Int32), ob)
        else
          chk (8 : Int32) i1 <|
          if (gA ob 1 i1) = (0 : Int32) then
            chk (8 : Int32) i2 <|
            if (gA ob 1 i2) = (0 : Int32) then
              (X_stateIndex ob i1 i3 i4).bind fun r15 =>
              chk (512 : Int32) r15 <|
              if (gA ob 3 r15) = (2 : Int32) then
                (X_copyIndex ob i3 i4 i2).bind fun r19 =>
                chk (512 : Int32) r19 <|
                if (gA ob 5 r19) < (3 : Int32) then
                  chk (512 : Int32) r19 <|
                  chk (512 : Int32) r19 <|
                  some ((0 : Int32), (sA ob 5 r19 ((gA ob 5 r19) + (1 : Int32))))
                else
                  some ((-3 : Int32), ob)
              else
                some ((-6 : Int32), ob)
            else
              some ((-2 : Int32), ob)
          else
            some ((-2 : Int32), ob)
set_option maxRecDepth 65536 in
set_option maxHeartbeats 4000000 in
theorem X_retransmit_p {C : Ctx} {top : Nat} {a : Nat} {H : List (Nat × Nat × Rec)} {res : Int32 × Rec} (ob : Rec) (i1 : Int32) (i2 : Int32) (i3 : Int32) (i4 : Int32) (hf : X_retransmit ob i1 i2 i3 i4 = some res) : Runs C B26 0 0 0 [vr a, vi i1, vi i2, vi i3, vi i4, vn, vn] [] (top, (a, 9, ob) :: H) (Ans (some (.int res.1)) (top, (a, 9, res.2) :: H)) := by
  delta X_retransmit at hf
  refine Runs.aloadN d26_0 rfl <| Runs.iloadN d26_1 rfl <| ?_
  refine bind_el hf fun r1 hg2 hf => ?_
  refine Runs.callP (N := B3) (W := 0) (as := [.int i1]) (S' := []) d26_2 w38 w39 w40 rfl cw3 ar3 rk26_3_0 (by decide) rfl rfl (X_validProc_pay hg2) <| ans1 <| ?_
  refine ite_el hf (fun hc3 hf => ?_) (fun hc3 hf => ?_)
  · refine Runs.ifY (pc' := 31) d26_5 (teq hc3).1 (by decide) <| ?_
    obtain rfl := Option.some.inj hf
    exact Runs.iconst d26_31 ci_m1 <| Runs.retI d26_32 rfl ⟨by decide, by decide⟩ ⟨rfl, rfl⟩
  · refine Runs.ifN d26_5 (feq hc3).1 <| ?_
    refine Runs.aloadN d26_8 rfl <| Runs.iloadN d26_9 rfl <| ?_
    refine bind_el hf fun r4 hg5 hf => ?_
    refine Runs.callP (N := B3) (W := 0) (as := [.int i2]) (S' := []) d26_10 w38 w39 w40 rfl cw3 ar3 rk26_3_0 (by decide) rfl rfl (X_validProc_pay hg5) <| ans1 <| ?_
    refine ite_el hf (fun hc6 hf => ?_) (fun hc6 hf => ?_)
    · refine Runs.ifY (pc' := 31) d26_13 (teq hc6).1 (by decide) <| ?_
      obtain rfl := Option.some.inj hf
      exact Runs.iconst d26_31 ci_m1 <| Runs.retI d26_32 rfl ⟨by decide, by decide⟩ ⟨rfl, rfl⟩
    · refine Runs.ifN d26_13 (feq hc6).1 <| ?_
      refine Runs.iloadN d26_16 rfl <| Runs.iloadN d26_17 rfl <| ?_
      refine ite_el hf (fun hc7 hf => ?_) (fun hc7 hf => ?_)
      · refine Runs.icY (pc' := 31) d26_18 (teq hc7).1 (by decide) <| ?_
        obtain rfl := Option.some.inj hf
        exact Runs.iconst d26_31 ci_m1 <| Runs.retI d26_32 rfl ⟨by decide, by decide⟩ ⟨rfl, rfl⟩
      · refine Runs.icN d26_18 (feq hc7).1 <| ?_
        refine Runs.aloadN d26_21 rfl <| Runs.iloadN d26_22 rfl <| Runs.iload d26_23 rfl <| ?_
        refine bind_el hf fun r8 hg9 hf => ?_
        refine Runs.callP (N := B10) (W := 0) (as := [.int i3, .int i4]) (S' := []) d26_25 w68 w69 w70 rfl cw10 ar10 rk26_10_0 (by decide) rfl rfl (X_exists_pay hg9) <| ans1 <| ?_
        refine ite_el hf (fun hc10 hf => ?_) (fun hc10 hf => ?_)
        · refine Runs.ifN d26_28 (teq hc10).2 <| ?_
          obtain rfl := Option.some.inj hf
          exact Runs.iconst d26_31 ci_m1 <| Runs.retI d26_32 rfl ⟨by decide, by decide⟩ ⟨rfl, rfl⟩
        · refine Runs.ifY (pc' := 33) d26_28 (feq hc10).2 (by decide) <| ?_
          refine Runs.aloadN d26_33 rfl <| Runs.getA d26_34 fA_1 w13 (by decide) <| Runs.iloadN d26_37 rfl <| ?_
          refine chk_el hf fun hi11 hf => ?_
          refine Runs.baloadA d26_38 fA_1 (by decide) hi11 <| ?_
          refine ite_el hf (fun hc12 hf => ?_) (fun hc12 hf => ?_)
          · refine Runs.ifN d26_39 (teq hc12).2 <| ?_
            refine Runs.aloadN d26_42 rfl <| Runs.getA d26_43 fA_1 w13 (by decide) <| Runs.iloadN d26_46 rfl <| ?_
            refine chk_el hf fun hi13 hf => ?_
            refine Runs.baloadA d26_47 fA_1 (by decide) hi13 <| ?_
            refine ite_el hf (fun hc14 hf => ?_) (fun hc14 hf => ?_)
            · refine Runs.ifY (pc' := 54) d26_48 (teq hc14).1 (by decide) <| ?_
              refine Runs.aloadN d26_54 rfl <| Runs.iloadN d26_55 rfl <| Runs.iloadN d26_56 rfl <| Runs.iload d26_57 rfl <| ?_
              refine bind_el hf fun r15 hg16 hf => ?_
              refine Runs.callP (N := B6) (W := 0) (as := [.int i1, .int i3, .int i4]) (S' := []) d26_59 w50 w51 w52 rfl cw6 ar6 rk26_6_0 (by decide) rfl rfl (X_stateIndex_pay hg16) <| ans1 <| Runs.istore (P' := [vr a, vi i1, vi i2, vi i3, vi i4, vi r15, vn]) d26_62 (by decide) rfl <| Runs.aloadN d26_64 rfl <| Runs.getA d26_65 fA_3 w17 (by decide) <| Runs.iload d26_68 rfl <| ?_
              refine chk_el hf fun hi17 hf => ?_
              refine Runs.ialoadA d26_70 fA_3 (by decide) hi17 <| Runs.iconst d26_71 ci_2 <| ?_
              refine ite_el hf (fun hc18 hf => ?_) (fun hc18 hf => ?_)
              · refine Runs.icY (pc' := 78) d26_72 (teq hc18).1 (by decide) <| ?_
                refine Runs.aloadN d26_78 rfl <| Runs.iloadN d26_79 rfl <| Runs.iload d26_80 rfl <| Runs.iloadN d26_82 rfl <| ?_
                refine bind_el hf fun r19 hg20 hf => ?_
                refine Runs.callP (N := B11) (W := 0) (as := [.int i3, .int i4, .int i2]) (S' := []) d26_83 w72 w73 w74 rfl cw11 ar11 rk26_11_0 (by decide) rfl rfl (X_copyIndex_pay hg20) <| ans1 <| Runs.istore (P' := [vr a, vi i1, vi i2, vi i3, vi i4, vi r15, vi r19]) d26_86 (by decide) rfl <| Runs.aloadN d26_88 rfl <| Runs.getA d26_89 fA_5 w21 (by decide) <| Runs.iload d26_92 rfl <| ?_
                refine chk_el hf fun hi21 hf => ?_
                refine Runs.ialoadA d26_94 fA_5 (by decide) hi21 <| Runs.iconst d26_95 ci_3 <| ?_
                refine ite_el hf (fun hc22 hf => ?_) (fun hc22 hf => ?_)
                · refine Runs.icY (pc' := 102) d26_96 (tlt hc22).1 (by decide) <| ?_
                  refine Runs.aloadN d26_102 rfl <| Runs.getA d26_103 fA_5 w21 (by decide) <| Runs.iload d26_106 rfl <| Runs.aloadN d26_108 rfl <| Runs.getA d26_109 fA_5 w21 (by decide) <| Runs.iload d26_112 rfl <| ?_
                  refine chk_el hf fun hi23 hf => ?_
                  refine Runs.ialoadA d26_114 fA_5 (by decide) hi23 <| Runs.iconst d26_115 ci_1 <| Runs.iadd d26_116 <| ?_
                  refine chk_el hf fun hi24 hf => ?_
                  obtain rfl := Option.some.inj hf
                  exact Runs.iastoreA d26_117 fA_5 (by decide) hi24 <| Runs.iconst d26_118 ci_0 <| Runs.retI d26_119 rfl ⟨by decide, by decide⟩ ⟨rfl, rfl⟩
                · refine Runs.icN d26_96 (flt hc22).1 <| ?_
                  obtain rfl := Option.some.inj hf
                  exact Runs.bipush d26_99 cb_m3 <| Runs.retI d26_101 rfl ⟨by decide, by decide⟩ ⟨rfl, rfl⟩
              · refine Runs.icN d26_72 (feq hc18).1 <| ?_
                obtain rfl := Option.some.inj hf
                exact Runs.bipush d26_75 cb_m6 <| Runs.retI d26_77 rfl ⟨by decide, by decide⟩ ⟨rfl, rfl⟩
            · refine Runs.ifN d26_48 (feq hc14).1 <| ?_
              obtain rfl := Option.some.inj hf
              exact Runs.bipush d26_51 cb_m2 <| Runs.retI d26_53 rfl ⟨by decide, by decide⟩ ⟨rfl, rfl⟩
          · refine Runs.ifY (pc' := 51) d26_39 (feq hc12).2 (by decide) <| ?_
            obtain rfl := Option.some.inj hf
            exact Runs.bipush d26_51 cb_m2 <| Runs.retI d26_53 rfl ⟨by decide, by decide⟩ ⟨rfl, rfl⟩
theorem X_retransmit_pay {C : Ctx} {top : Nat} {a : Nat} {H : List (Nat × Nat × Rec)} {res : Int32 × Rec} {ob : Rec} {i1 : Int32} {i2 : Int32} {i3 : Int32} {i4 : Int32} (hf : X_retransmit ob i1 i2 i3 i4 = some res) : Pays C B26 [.ref a, .int i1, .int i2, .int i3, .int i4] (top, (a, 9, ob) :: H) (Ans (some (.int res.1)) (top, (a, 9, res.2) :: H)) :=
  Pays.of pnK (Nat.le_of_ble_eq_true rfl) (P := [vr a, vi i1, vi i2, vi i3, vi i4, vn, vn]) 2 rfl (X_retransmit_p ob i1 i2 i3 i4 hf)
def X_gossip_w57 (NF : Nat) (k46 : Rec → Int32 → Int32 → Int32 → Option (Int32 × Rec)) (k57 : Rec → Int32 → Int32 → Int32 → Int32 → Option (Int32 × Rec)) (ob : Rec) (i1 : Int32) (i2 : Int32) (i3 : Int32) (i4 : Int32) : Option (Int32 × Rec) :=
  if i4 < (gI ob 0) then
    chk (512 : Int32) (((i1 * (64 : Int32)) + (i3 * (8 : Int32))) + i4) <|
    chk (512 : Int32) (((i2 * (64 : Int32)) + (i3 * (8 : Int32))) + i4) <|
    if (gA ob 6 (((i2 * (64 : Int32)) + (i3 * (8 : Int32))) + i4)) < (gA ob 6 (((i1 * (64 : Int32)) + (i3 * (8 : Int32))) + i4)) then
      chk (512 : Int32) (((i1 * (64 : Int32)) + (i3 * (8 : Int32))) + i4) <|
      chk (512 : Int32) (((i2 * (64 : Int32)) + (i3 * (8 : Int32))) + i4) <|
      k57 (sA ob 6 (((i2 * (64 : Int32)) + (i3 * (8 : Int32))) + i4) (gA ob 6 (((i1 * (64 : Int32)) + (i3 * (8 : Int32))) + i4))) i1 i2 i3 (i4 + (1 : Int32))
    else
      k57 ob i1 i2 i3 (i4 + (1 : Int32))
  else
    k46 ob i1 i2 (i3 + (1 : Int32))
def X_gossip_l57 (NF : Nat) (k46 : Rec → Int32 → Int32 → Int32 → Option (Int32 × Rec)) : Nat → Rec → Int32 → Int32 → Int32 → Int32 → Option (Int32 × Rec)
  | 0, _, _, _, _, _ => none
  | n + 1, ob, i1, i2, i3, i4 => X_gossip_w57 NF k46 (X_gossip_l57 NF k46 n) ob i1 i2 i3 i4
set_option maxRecDepth 65536 in
set_option maxHeartbeats 4000000 in
theorem X_gossip_w57_p {C : Ctx} {top : Nat} {a : Nat} {H : List (Nat × Nat × Rec)} {res : Int32 × Rec} {NF : Nat} (k46 : Rec → Int32 → Int32 → Int32 → Option (Int32 × Rec)) (hk46 : ∀ (ob : Rec) (i1 : Int32) (i2 : Int32) (i3 : Int32), k46 ob i1 i2 i3 = some res → Runs C B27 0 0 46 [vr a, vi i1, vi i2, vi i3, vn, vn, vn] [] (top, (a, 9, ob) :: H) (Ans (some (.int res.1)) (top, (a, 9, res.2) :: H))) (k57 : Rec → Int32 → Int32 → Int32 → Int32 → Option (Int32 × Rec)) (hk57 : ∀ (ob : Rec) (i1 : Int32) (i2 : Int32) (i3 : Int32) (i4 : Int32), k57 ob i1 i2 i3 i4 = some res → Runs C B27 0 0 57 [vr a, vi i1, vi i2, vi i3, vi i4, vn, vn] [] (top, (a, 9, ob) :: H) (Ans (some (.int res.1)) (top, (a, 9, res.2) :: H))) (ob : Rec) (i1 : Int32) (i2 : Int32) (i3 : Int32) (i4 : Int32) (hf : X_gossip_w57 NF k46 k57 ob i1 i2 i3 i4 = some res) : Runs C B27 0 0 57 [vr a, vi i1, vi i2, vi i3, vi i4, vn, vn] [] (top, (a, 9, ob) :: H) (Ans (some (.int res.1)) (top, (a, 9, res.2) :: H)) := by
  delta X_gossip_w57 at hf
  refine Runs.iload d27_57 rfl <| Runs.aloadN d27_59 rfl <| Runs.getI d27_60 w29 fS_0 <| ?_
  refine ite_el hf (fun hc2 hf => ?_) (fun hc2 hf => ?_)
  · refine Runs.icN d27_63 (tlt hc2).2.1 <| ?_
    refine Runs.iloadN d27_66 rfl <| Runs.bipush d27_67 cb_64 <| Runs.imul d27_69 <| Runs.iloadN d27_70 rfl <| Runs.bipush d27_71 cb_8 <| Runs.imul d27_73 <| Runs.iadd d27_74 <| Runs.iload d27_75 rfl <| Runs.iadd d27_77 <| Runs.istore (P' := [vr a, vi i1, vi i2, vi i3, vi i4, vi (((i2 * (64 : Int32)) + (i3 * (8 : Int32))) + i4), vn]) d27_78 (by decide) rfl <| Runs.iloadN d27_80 rfl <| Runs.bipush d27_81 cb_64 <| ?_
    refine Runs.imul d27_83 <| Runs.iloadN d27_84 rfl <| Runs.bipush d27_85 cb_8 <| Runs.imul d27_87 <| Runs.iadd d27_88 <| Runs.iload d27_89 rfl <| Runs.iadd d27_91 <| Runs.istore (P' := [vr a, vi i1, vi i2, vi i3, vi i4, vi (((i2 * (64 : Int32)) + (i3 * (8 : Int32))) + i4), vi (((i1 * (64 : Int32)) + (i3 * (8 : Int32))) + i4)]) d27_92 (by decide) rfl <| Runs.aloadN d27_94 rfl <| Runs.getA d27_95 fA_6 w23 (by decide) <| Runs.iload d27_98 rfl <| ?_
    refine chk_el hf fun hi3 hf => ?_
    refine Runs.ialoadA d27_100 fA_6 (by decide) hi3 <| Runs.aloadN d27_101 rfl <| Runs.getA d27_102 fA_6 w23 (by decide) <| Runs.iload d27_105 rfl <| ?_
    refine chk_el hf fun hi4 hf => ?_
    refine Runs.ialoadA d27_107 fA_6 (by decide) hi4 <| ?_
    refine ite_el hf (fun hc5 hf => ?_) (fun hc5 hf => ?_)
    · refine Runs.icN d27_108 (tlt hc5).2.2.2 <| ?_
      refine Runs.aloadN d27_111 rfl <| Runs.getA d27_112 fA_6 w23 (by decide) <| Runs.iload d27_115 rfl <| Runs.aloadN d27_117 rfl <| Runs.getA d27_118 fA_6 w23 (by decide) <| Runs.iload d27_121 rfl <| ?_
      refine chk_el hf fun hi6 hf => ?_
      refine Runs.ialoadA d27_123 fA_6 (by decide) hi6 <| ?_
      refine chk_el hf fun hi7 hf => ?_
      exact Runs.iastoreA d27_124 fA_6 (by decide) hi7 <| Runs.iinc (P' := [vr a, vi i1, vi i2, vi i3, vi (i4 + (1 : Int32)), vi (((i2 * (64 : Int32)) + (i3 * (8 : Int32))) + i4), vi (((i1 * (64 : Int32)) + (i3 * (8 : Int32))) + i4)]) d27_125 ci_1 rfl (by decide) rfl <| Runs.goto (pc' := 57) d27_128 (by decide) <| Runs.forget [true, true, true, true, true, false, false] rfl <| hk57 (sA ob 6 (((i2 * (64 : Int32)) + (i3 * (8 : Int32))) + i4) (gA ob 6 (((i1 * (64 : Int32)) + (i3 * (8 : Int32))) + i4))) i1 i2 i3 (i4 + (1 : Int32)) hf
    · refine Runs.icY (pc' := 125) d27_108 (flt hc5).2.2.2 (by decide) <| ?_
      exact Runs.iinc (P' := [vr a, vi i1, vi i2, vi i3, vi (i4 + (1 : Int32)), vi (((i2 * (64 : Int32)) + (i3 * (8 : Int32))) + i4), vi (((i1 * (64 : Int32)) + (i3 * (8 : Int32))) + i4)]) d27_125 ci_1 rfl (by decide) rfl <| Runs.goto (pc' := 57) d27_128 (by decide) <| Runs.forget [true, true, true, true, true, false, false] rfl <| hk57 ob i1 i2 i3 (i4 + (1 : Int32)) hf
  · refine Runs.icY (pc' := 131) d27_63 (flt hc2).2.1 (by decide) <| ?_
    exact Runs.iinc (P' := [vr a, vi i1, vi i2, vi (i3 + (1 : Int32)), vi i4, vn, vn]) d27_131 ci_1 rfl (by decide) rfl <| Runs.goto (pc' := 46) d27_134 (by decide) <| Runs.forget [true, true, true, true, false, false, false] rfl <| hk46 ob i1 i2 (i3 + (1 : Int32)) hf
theorem X_gossip_l57_p {C : Ctx} {top : Nat} {a : Nat} {H : List (Nat × Nat × Rec)} {res : Int32 × Rec} {NF : Nat} (k46 : Rec → Int32 → Int32 → Int32 → Option (Int32 × Rec)) (hk46 : ∀ (ob : Rec) (i1 : Int32) (i2 : Int32) (i3 : Int32), k46 ob i1 i2 i3 = some res → Runs C B27 0 0 46 [vr a, vi i1, vi i2, vi i3, vn, vn, vn] [] (top, (a, 9, ob) :: H) (Ans (some (.int res.1)) (top, (a, 9, res.2) :: H))) (n : Nat) (ob : Rec) (i1 : Int32) (i2 : Int32) (i3 : Int32) (i4 : Int32) (hf : X_gossip_l57 NF k46 n ob i1 i2 i3 i4 = some res) : Runs C B27 0 0 57 [vr a, vi i1, vi i2, vi i3, vi i4, vn, vn] [] (top, (a, 9, ob) :: H) (Ans (some (.int res.1)) (top, (a, 9, res.2) :: H)) := by
  induction n generalizing ob i1 i2 i3 i4 with
  | zero => cases (show (none : Option (Int32 × Rec)) = some res from hf)
  | succ n ih => exact X_gossip_w57_p k46 hk46 (X_gossip_l57 NF k46 n) (fun ob i1 i2 i3 i4 h => ih _ _ _ _ _ h) ob i1 i2 i3 i4 hf
def X_gossip_w46 (NF : Nat) (k46 : Rec → Int32 → Int32 → Int32 → Option (Int32 × Rec)) (ob : Rec) (i1 : Int32) (i2 : Int32) (i3 : Int32) : Option (Int32 × Rec) :=
  if i3 < (gI ob 0) then
    X_gossip_l57 NF k46 NF ob i1 i2 i3 (0 : Int32)
  else
    some ((0 : Int32), ob)
def X_gossip_l46 (NF : Nat) : Nat → Rec → Int32 → Int32 → Int32 → Option (Int32 × Rec)
  | 0, _, _, _, _ => none
  | n + 1, ob, i1, i2, i3 => X_gossip_w46 NF (X_gossip_l46 NF n) ob i1 i2 i3
set_option maxRecDepth 65536 in
set_option maxHeartbeats 4000000 in
theorem X_gossip_w46_p {C : Ctx} {top : Nat} {a : Nat} {H : List (Nat × Nat × Rec)} {res : Int32 × Rec} {NF : Nat} (k46 : Rec → Int32 → Int32 → Int32 → Option (Int32 × Rec)) (hk46 : ∀ (ob : Rec) (i1 : Int32) (i2 : Int32) (i3 : Int32), k46 ob i1 i2 i3 = some res → Runs C B27 0 0 46 [vr a, vi i1, vi i2, vi i3, vn, vn, vn] [] (top, (a, 9, ob) :: H) (Ans (some (.int res.1)) (top, (a, 9, res.2) :: H))) (ob : Rec) (i1 : Int32) (i2 : Int32) (i3 : Int32) (hf : X_gossip_w46 NF k46 ob i1 i2 i3 = some res) : Runs C B27 0 0 46 [vr a, vi i1, vi i2, vi i3, vn, vn, vn] [] (top, (a, 9, ob) :: H) (Ans (some (.int res.1)) (top, (a, 9, res.2) :: H)) := by
  delta X_gossip_w46 at hf
  refine Runs.iloadN d27_46 rfl <| Runs.aloadN d27_47 rfl <| Runs.getI d27_48 w29 fS_0 <| ?_
  refine ite_el hf (fun hc1 hf => ?_) (fun hc1 hf => ?_)
  · refine Runs.icN d27_51 (tlt hc1).2.1 <| ?_
    exact Runs.iconst d27_54 ci_0 <| Runs.istore (P' := [vr a, vi i1, vi i2, vi i3, vi (0 : Int32), vn, vn]) d27_55 (by decide) rfl <| X_gossip_l57_p k46 hk46 NF ob i1 i2 i3 (0 : Int32) hf
  · refine Runs.icY (pc' := 137) d27_51 (flt hc1).2.1 (by decide) <| ?_
    obtain rfl := Option.some.inj hf
    exact Runs.iconst d27_137 ci_0 <| Runs.retI d27_138 rfl ⟨by decide, by decide⟩ ⟨rfl, rfl⟩
theorem X_gossip_l46_p {C : Ctx} {top : Nat} {a : Nat} {H : List (Nat × Nat × Rec)} {res : Int32 × Rec} {NF : Nat} (n : Nat) (ob : Rec) (i1 : Int32) (i2 : Int32) (i3 : Int32) (hf : X_gossip_l46 NF n ob i1 i2 i3 = some res) : Runs C B27 0 0 46 [vr a, vi i1, vi i2, vi i3, vn, vn, vn] [] (top, (a, 9, ob) :: H) (Ans (some (.int res.1)) (top, (a, 9, res.2) :: H)) := by
  induction n generalizing ob i1 i2 i3 with
  | zero => cases (show (none : Option (Int32 × Rec)) = some res from hf)
  | succ n ih => exact X_gossip_w46_p (X_gossip_l46 NF n) (fun ob i1 i2 i3 h => ih _ _ _ _ h) ob i1 i2 i3 hf
def X_gossip (NF : Nat) (ob : Rec) (i1 : Int32) (i2 : Int32) : Option (Int32 × Rec) :=
  (X_validProc ob i1).bind fun r8 =>
  if r8 = (0 : Int32) then
    some ((-1 : Int32), ob)
  else
    (X_validProc ob i2).bind fun r11 =>
    if r11 = (0 : Int32) then
      some ((-1 : Int32), ob)
    else
      if i1 = i2 then
        some ((-1 : Int32), ob)
      else
        chk (8 : Int32) i1 <|
        if (gA ob 1 i1) = (0 : Int32) then
          chk (8 : Int32) i2 <|
          if (gA ob 1 i2) = (0 : Int32) then
            X_gossip_l46 NF NF ob i1 i2 (0 : Int32)
          else
            some ((-2 : Int32), ob)
        else
          some ((-2 : Int32), ob)
set_option maxRecDepth 65536 in
set_option maxHeartbeats 4000000 in
theorem X_gossip_p {C : Ctx} {top : Nat} {a : Nat} {H : List (Nat × Nat × Rec)} {res : Int32 × Rec} {NF : Nat} (ob : Rec) (i1 : Int32) (i2 : Int32) (hf : X_gossip NF ob i1 i2 = some res) : Runs C B27 0 0 0 [vr a, vi i1, vi i2, vn, vn, vn, vn] [] (top, (a, 9, ob) :: H) (Ans (some (.int res.1)) (top, (a, 9, res.2) :: H)) := by
  delta X_gossip at hf
  refine Runs.aloadN d27_0 rfl <| Runs.iloadN d27_1 rfl <| ?_
  refine bind_el hf fun r8 hg9 hf => ?_
  refine Runs.callP (N := B3) (W := 0) (as := [.int i1]) (S' := []) d27_2 w38 w39 w40 rfl cw3 ar3 rk27_3_0 (by decide) rfl rfl (X_validProc_pay hg9) <| ans1 <| ?_
  refine ite_el hf (fun hc10 hf => ?_) (fun hc10 hf => ?_)
  · refine Runs.ifY (pc' := 21) d27_5 (teq hc10).1 (by decide) <| ?_
    obtain rfl := Option.some.inj hf
    exact Runs.iconst d27_21 ci_m1 <| Runs.retI d27_22 rfl ⟨by decide, by decide⟩ ⟨rfl, rfl⟩
  · refine Runs.ifN d27_5 (feq hc10).1 <| ?_
    refine Runs.aloadN d27_8 rfl <| Runs.iloadN d27_9 rfl <| ?_
    refine bind_el hf fun r11 hg12 hf => ?_
    refine Runs.callP (N := B3) (W := 0) (as := [.int i2]) (S' := []) d27_10 w38 w39 w40 rfl cw3 ar3 rk27_3_0 (by decide) rfl rfl (X_validProc_pay hg12) <| ans1 <| ?_
    refine ite_el hf (fun hc13 hf => ?_) (fun hc13 hf => ?_)
    · refine Runs.ifY (pc' := 21) d27_13 (teq hc13).1 (by decide) <| ?_
      obtain rfl := Option.some.inj hf
      exact Runs.iconst d27_21 ci_m1 <| Runs.retI d27_22 rfl ⟨by decide, by decide⟩ ⟨rfl, rfl⟩
    · refine Runs.ifN d27_13 (feq hc13).1 <| ?_
      refine Runs.iloadN d27_16 rfl <| Runs.iloadN d27_17 rfl <| ?_
      refine ite_el hf (fun hc14 hf => ?_) (fun hc14 hf => ?_)
      · refine Runs.icN d27_18 (teq hc14).2 <| ?_
        obtain rfl := Option.some.inj hf
        exact Runs.iconst d27_21 ci_m1 <| Runs.retI d27_22 rfl ⟨by decide, by decide⟩ ⟨rfl, rfl⟩
      · refine Runs.icY (pc' := 23) d27_18 (feq hc14).2 (by decide) <| ?_
        refine Runs.aloadN d27_23 rfl <| Runs.getA d27_24 fA_1 w13 (by decide) <| Runs.iloadN d27_27 rfl <| ?_
        refine chk_el hf fun hi15 hf => ?_
        refine Runs.baloadA d27_28 fA_1 (by decide) hi15 <| ?_
        refine ite_el hf (fun hc16 hf => ?_) (fun hc16 hf => ?_)
        · refine Runs.ifN d27_29 (teq hc16).2 <| ?_
          refine Runs.aloadN d27_32 rfl <| Runs.getA d27_33 fA_1 w13 (by decide) <| Runs.iloadN d27_36 rfl <| ?_
          refine chk_el hf fun hi17 hf => ?_
          refine Runs.baloadA d27_37 fA_1 (by decide) hi17 <| ?_
          refine ite_el hf (fun hc18 hf => ?_) (fun hc18 hf => ?_)
          · refine Runs.ifY (pc' := 44) d27_38 (teq hc18).1 (by decide) <| ?_
            exact Runs.iconst d27_44 ci_0 <| Runs.istoreN (P' := [vr a, vi i1, vi i2, vi (0 : Int32), vn, vn, vn]) d27_45 (by decide) rfl <| X_gossip_l46_p NF ob i1 i2 (0 : Int32) hf
          · refine Runs.ifN d27_38 (feq hc18).1 <| ?_
            obtain rfl := Option.some.inj hf
            exact Runs.bipush d27_41 cb_m2 <| Runs.retI d27_43 rfl ⟨by decide, by decide⟩ ⟨rfl, rfl⟩
        · refine Runs.ifY (pc' := 41) d27_29 (feq hc16).2 (by decide) <| ?_
          obtain rfl := Option.some.inj hf
          exact Runs.bipush d27_41 cb_m2 <| Runs.retI d27_43 rfl ⟨by decide, by decide⟩ ⟨rfl, rfl⟩
theorem X_gossip_pay {C : Ctx} {top : Nat} {a : Nat} {H : List (Nat × Nat × Rec)} {res : Int32 × Rec} {NF : Nat} {ob : Rec} {i1 : Int32} {i2 : Int32} (hf : X_gossip NF ob i1 i2 = some res) : Pays C B27 [.ref a, .int i1, .int i2] (top, (a, 9, ob) :: H) (Ans (some (.int res.1)) (top, (a, 9, res.2) :: H)) :=
  Pays.of pnK (Nat.le_of_ble_eq_true rfl) (P := [vr a, vi i1, vi i2, vn, vn, vn, vn]) 4 rfl (X_gossip_p ob i1 i2 hf)
def X_isStable_w3 (NF : Nat) (ob : Rec) (k3 : Int32 → Int32 → Int32 → Int32 → Option (Int32)) (i1 : Int32) (i2 : Int32) (i3 : Int32) (i4 : Int32) : Option (Int32) :=
  if i4 < (gI ob 0) then
    chk (8 : Int32) i4 <|
    if (gA ob 1 i4) = (0 : Int32) then
      (X_knownIndex ob i1 i4 i2).bind fun r4 =>
      chk (512 : Int32) r4 <|
      if (gA ob 6 r4) < i3 then
        some (0 : Int32)
      else
        k3 i1 i2 i3 (i4 + (1 : Int32))
    else
      k3 i1 i2 i3 (i4 + (1 : Int32))
  else
    some (1 : Int32)
def X_isStable_l3 (NF : Nat) (ob : Rec) : Nat → Int32 → Int32 → Int32 → Int32 → Option (Int32)
  | 0, _, _, _, _ => none
  | n + 1, i1, i2, i3, i4 => X_isStable_w3 NF ob (X_isStable_l3 NF ob n) i1 i2 i3 i4
set_option maxRecDepth 65536 in
set_option maxHeartbeats 4000000 in
theorem X_isStable_w3_p {C : Ctx} {top : Nat} {a : Nat} {H : List (Nat × Nat × Rec)} {ob : Rec} {res : Int32} {NF : Nat} (k3 : Int32 → Int32 → Int32 → Int32 → Option (Int32)) (hk3 : ∀ (i1 : Int32) (i2 : Int32) (i3 : Int32) (i4 : Int32), k3 i1 i2 i3 i4 = some res → Runs C B28 0 0 3 [vr a, vi i1, vi i2, vi i3, vi i4, vn] [] (top, (a, 9, ob) :: H) (Ans (some (.int res)) (top, (a, 9, ob) :: H))) (i1 : Int32) (i2 : Int32) (i3 : Int32) (i4 : Int32) (hf : X_isStable_w3 NF ob k3 i1 i2 i3 i4 = some res) : Runs C B28 0 0 3 [vr a, vi i1, vi i2, vi i3, vi i4, vn] [] (top, (a, 9, ob) :: H) (Ans (some (.int res)) (top, (a, 9, ob) :: H)) := by
  delta X_isStable_w3 at hf
  refine Runs.iload d28_3 rfl <| Runs.aloadN d28_5 rfl <| Runs.getI d28_6 w29 fS_0 <| ?_
  refine ite_el hf (fun hc1 hf => ?_) (fun hc1 hf => ?_)
  · refine Runs.icN d28_9 (tlt hc1).2.1 <| ?_
    refine Runs.aloadN d28_12 rfl <| Runs.getA d28_13 fA_1 w13 (by decide) <| Runs.iload d28_16 rfl <| ?_
    refine chk_el hf fun hi2 hf => ?_
    refine Runs.baloadA d28_18 fA_1 (by decide) hi2 <| ?_
    refine ite_el hf (fun hc3 hf => ?_) (fun hc3 hf => ?_)
    · refine Runs.ifN d28_19 (teq hc3).2 <| ?_
      refine Runs.aloadN d28_22 rfl <| Runs.iloadN d28_23 rfl <| Runs.iload d28_24 rfl <| Runs.iloadN d28_26 rfl <| ?_
      refine bind_el hf fun r4 hg5 hf => ?_
      refine Runs.callP (N := B7) (W := 0) (as := [.int i1, .int i4, .int i2]) (S' := []) d28_27 w54 w55 w56 rfl cw7 ar7 rk28_7_0 (by decide) rfl rfl (X_knownIndex_pay hg5) <| ans1 <| Runs.istore (P' := [vr a, vi i1, vi i2, vi i3, vi i4, vi r4]) d28_30 (by decide) rfl <| Runs.aloadN d28_32 rfl <| Runs.getA d28_33 fA_6 w23 (by decide) <| Runs.iload d28_36 rfl <| ?_
      refine chk_el hf fun hi6 hf => ?_
      refine Runs.ialoadA d28_38 fA_6 (by decide) hi6 <| Runs.iloadN d28_39 rfl <| ?_
      refine ite_el hf (fun hc7 hf => ?_) (fun hc7 hf => ?_)
      · refine Runs.icN d28_40 (tlt hc7).2.1 <| ?_
        obtain rfl := Option.some.inj hf
        exact Runs.iconst d28_43 ci_0 <| Runs.retZ (y := (0 : Int32)) d28_44 rfl ⟨by decide, by decide⟩ rfl ⟨rfl, rfl⟩
      · refine Runs.icY (pc' := 45) d28_40 (flt hc7).2.1 (by decide) <| ?_
        exact Runs.iinc (P' := [vr a, vi i1, vi i2, vi i3, vi (i4 + (1 : Int32)), vi r4]) d28_45 ci_1 rfl (by decide) rfl <| Runs.goto (pc' := 3) d28_48 (by decide) <| Runs.forget [true, true, true, true, true, false] rfl <| hk3 i1 i2 i3 (i4 + (1 : Int32)) hf
    · refine Runs.ifY (pc' := 45) d28_19 (feq hc3).2 (by decide) <| ?_
      exact Runs.iinc (P' := [vr a, vi i1, vi i2, vi i3, vi (i4 + (1 : Int32)), vn]) d28_45 ci_1 rfl (by decide) rfl <| Runs.goto (pc' := 3) d28_48 (by decide) <| hk3 i1 i2 i3 (i4 + (1 : Int32)) hf
  · refine Runs.icY (pc' := 51) d28_9 (flt hc1).2.1 (by decide) <| ?_
    obtain rfl := Option.some.inj hf
    exact Runs.iconst d28_51 ci_1 <| Runs.retZ (y := (1 : Int32)) d28_52 rfl ⟨by decide, by decide⟩ rfl ⟨rfl, rfl⟩
theorem X_isStable_l3_p {C : Ctx} {top : Nat} {a : Nat} {H : List (Nat × Nat × Rec)} {ob : Rec} {res : Int32} {NF : Nat} (n : Nat) (i1 : Int32) (i2 : Int32) (i3 : Int32) (i4 : Int32) (hf : X_isStable_l3 NF ob n i1 i2 i3 i4 = some res) : Runs C B28 0 0 3 [vr a, vi i1, vi i2, vi i3, vi i4, vn] [] (top, (a, 9, ob) :: H) (Ans (some (.int res)) (top, (a, 9, ob) :: H)) := by
  induction n generalizing i1 i2 i3 i4 with
  | zero => cases (show (none : Option (Int32)) = some res from hf)
  | succ n ih => exact X_isStable_w3_p (X_isStable_l3 NF ob n) (fun i1 i2 i3 i4 h => ih _ _ _ _ h) i1 i2 i3 i4 hf
def X_isStable (NF : Nat) (ob : Rec) (i1 : Int32) (i2 : Int32) (i3 : Int32) : Option (Int32) :=
  X_isStable_l3 NF ob NF i1 i2 i3 (0 : Int32)
set_option maxRecDepth 65536 in
set_option maxHeartbeats 4000000 in
theorem X_isStable_p {C : Ctx} {top : Nat} {a : Nat} {H : List (Nat × Nat × Rec)} {ob : Rec} {res : Int32} {NF : Nat} (i1 : Int32) (i2 : Int32) (i3 : Int32) (hf : X_isStable NF ob i1 i2 i3 = some res) : Runs C B28 0 0 0 [vr a, vi i1, vi i2, vi i3, vn, vn] [] (top, (a, 9, ob) :: H) (Ans (some (.int res)) (top, (a, 9, ob) :: H)) := by
  delta X_isStable at hf
  exact Runs.iconst d28_0 ci_0 <| Runs.istore (P' := [vr a, vi i1, vi i2, vi i3, vi (0 : Int32), vn]) d28_1 (by decide) rfl <| X_isStable_l3_p NF i1 i2 i3 (0 : Int32) hf
theorem X_isStable_pay {C : Ctx} {top : Nat} {a : Nat} {H : List (Nat × Nat × Rec)} {ob : Rec} {res : Int32} {NF : Nat} {i1 : Int32} {i2 : Int32} {i3 : Int32} (hf : X_isStable NF ob i1 i2 i3 = some res) : Pays C B28 [.ref a, .int i1, .int i2, .int i3] (top, (a, 9, ob) :: H) (Ans (some (.int res)) (top, (a, 9, ob) :: H)) :=
  Pays.of pnK (Nat.le_of_ble_eq_true rfl) (P := [vr a, vi i1, vi i2, vi i3, vn, vn]) 2 rfl (X_isStable_p i1 i2 i3 hf)
def X_prune_w45 (NF : Nat) (k26 : Rec → Int32 → Int32 → Int32 → Option (Int32 × Rec)) (k45 : Rec → Int32 → Int32 → Int32 → Int32 → Int32 → Option (Int32 × Rec)) (ob : Rec) (i1 : Int32) (i2 : Int32) (i3 : Int32) (i4 : Int32) (i5 : Int32) : Option (Int32 × Rec) :=
  if i4 < i5 then
    k26 ob i1 i2 (i3 + (1 : Int32))
  else
    if (8 : Int32) < i5 then
      k26 ob i1 i2 (i3 + (1 : Int32))
    else
      (X_stateIndex ob i1 i3 i5).bind fun r5 =>
      chk (512 : Int32) r5 <|
      if (gA ob 3 r5) = (2 : Int32) then
        (X_isStable NF ob i1 i3 i5).bind fun r9 =>
        if r9 = (0 : Int32) then
          k45 ob i1 i2 i3 i4 (i5 + (1 : Int32))
        else
          chk (512 : Int32) r5 <|
          k45 (sA ob 3 r5 (3 : Int32)) i1 (i2 + (1 : Int32)) i3 i4 (i5 + (1 : Int32))
      else
        k45 ob i1 i2 i3 i4 (i5 + (1 : Int32))
def X_prune_l45 (NF : Nat) (k26 : Rec → Int32 → Int32 → Int32 → Option (Int32 × Rec)) : Nat → Rec → Int32 → Int32 → Int32 → Int32 → Int32 → Option (Int32 × Rec)
  | 0, _, _, _, _, _, _ => none
  | n + 1, ob, i1, i2, i3, i4, i5 => X_prune_w45 NF k26 (X_prune_l45 NF k26 n) ob i1 i2 i3 i4 i5
set_option maxRecDepth 65536 in
set_option maxHeartbeats 4000000 in
theorem X_prune_w45_p {C : Ctx} {top : Nat} {a : Nat} {H : List (Nat × Nat × Rec)} {res : Int32 × Rec} {NF : Nat} (k26 : Rec → Int32 → Int32 → Int32 → Option (Int32 × Rec)) (hk26 : ∀ (ob : Rec) (i1 : Int32) (i2 : Int32) (i3 : Int32), k26 ob i1 i2 i3 = some res → Runs C B24 0 0 26 [vr a, vi i1, vi i2, vi i3, vn, vn, vn] [] (top, (a, 9, ob) :: H) (Ans (some (.int res.1)) (top, (a, 9, res.2) :: H))) (k45 : Rec → Int32 → Int32 → Int32 → Int32 → Int32 → Option (Int32 × Rec)) (hk45 : ∀ (ob : Rec) (i1 : Int32) (i2 : Int32) (i3 : Int32) (i4 : Int32) (i5 : Int32), k45 ob i1 i2 i3 i4 i5 = some res → Runs C B24 0 0 45 [vr a, vi i1, vi i2, vi i3, vi i4, vi i5, vn] [] (top, (a, 9, ob) :: H) (Ans (some (.int res.1)) (top, (a, 9, res.2) :: H))) (ob : Rec) (i1 : Int32) (i2 : Int32) (i3 : Int32) (i4 : Int32) (i5 : Int32) (hf : X_prune_w45 NF k26 k45 ob i1 i2 i3 i4 i5 = some res) : Runs C B24 0 0 45 [vr a, vi i1, vi i2, vi i3, vi i4, vi i5, vn] [] (top, (a, 9, ob) :: H) (Ans (some (.int res.1)) (top, (a, 9, res.2) :: H)) := by
  delta X_prune_w45 at hf
  refine Runs.iload d24_45 rfl <| Runs.iload d24_47 rfl <| ?_
  refine ite_el hf (fun hc3 hf => ?_) (fun hc3 hf => ?_)
  · refine Runs.icY (pc' := 108) d24_49 (tlt hc3).2.2.1 (by decide) <| ?_
    exact Runs.iinc (P' := [vr a, vi i1, vi i2, vi (i3 + (1 : Int32)), vi i4, vi i5, vn]) d24_108 ci_1 rfl (by decide) rfl <| Runs.goto (pc' := 26) d24_111 (by decide) <| Runs.forget [true, true, true, true, false, false, false] rfl <| hk26 ob i1 i2 (i3 + (1 : Int32)) hf
  · refine Runs.icN d24_49 (flt hc3).2.2.1 <| ?_
    refine Runs.iload d24_52 rfl <| Runs.bipush d24_54 cb_8 <| ?_
    refine ite_el hf (fun hc4 hf => ?_) (fun hc4 hf => ?_)
    · refine Runs.icY (pc' := 108) d24_56 (tlt hc4).2.2.1 (by decide) <| ?_
      exact Runs.iinc (P' := [vr a, vi i1, vi i2, vi (i3 + (1 : Int32)), vi i4, vi i5, vn]) d24_108 ci_1 rfl (by decide) rfl <| Runs.goto (pc' := 26) d24_111 (by decide) <| Runs.forget [true, true, true, true, false, false, false] rfl <| hk26 ob i1 i2 (i3 + (1 : Int32)) hf
    · refine Runs.icN d24_56 (flt hc4).2.2.1 <| ?_
      refine Runs.aloadN d24_59 rfl <| Runs.iloadN d24_60 rfl <| Runs.iloadN d24_61 rfl <| Runs.iload d24_62 rfl <| ?_
      refine bind_el hf fun r5 hg6 hf => ?_
      refine Runs.callP (N := B6) (W := 0) (as := [.int i1, .int i3, .int i5]) (S' := []) d24_64 w50 w51 w52 rfl cw6 ar6 rk24_6_0 (by decide) rfl rfl (X_stateIndex_pay hg6) <| ans1 <| Runs.istore (P' := [vr a, vi i1, vi i2, vi i3, vi i4, vi i5, vi r5]) d24_67 (by decide) rfl <| Runs.aloadN d24_69 rfl <| Runs.getA d24_70 fA_3 w17 (by decide) <| Runs.iload d24_73 rfl <| ?_
      refine chk_el hf fun hi7 hf => ?_
      refine Runs.ialoadA d24_75 fA_3 (by decide) hi7 <| Runs.iconst d24_76 ci_2 <| ?_
      refine ite_el hf (fun hc8 hf => ?_) (fun hc8 hf => ?_)
      · refine Runs.icN d24_77 (teq hc8).2 <| ?_
        refine Runs.aloadN d24_80 rfl <| Runs.iloadN d24_81 rfl <| Runs.iloadN d24_82 rfl <| Runs.iload d24_83 rfl <| ?_
        refine bind_el hf fun r9 hg10 hf => ?_
        refine Runs.callP (N := B28) (W := 0) (as := [.int i1, .int i3, .int i5]) (S' := []) d24_85 w152 w153 w154 rfl cw28 ar28 rk24_28_0 (by decide) rfl rfl (X_isStable_pay hg10) <| ans1 <| ?_
        refine ite_el hf (fun hc11 hf => ?_) (fun hc11 hf => ?_)
        · refine Runs.ifY (pc' := 102) d24_88 (teq hc11).1 (by decide) <| ?_
          exact Runs.iinc (P' := [vr a, vi i1, vi i2, vi i3, vi i4, vi (i5 + (1 : Int32)), vi r5]) d24_102 ci_1 rfl (by decide) rfl <| Runs.goto (pc' := 45) d24_105 (by decide) <| Runs.forget [true, true, true, true, true, true, false] rfl <| hk45 ob i1 i2 i3 i4 (i5 + (1 : Int32)) hf
        · refine Runs.ifN d24_88 (feq hc11).1 <| ?_
          refine Runs.aloadN d24_91 rfl <| Runs.getA d24_92 fA_3 w17 (by decide) <| Runs.iload d24_95 rfl <| Runs.iconst d24_97 ci_3 <| ?_
          refine chk_el hf fun hi12 hf => ?_
          exact Runs.iastoreA d24_98 fA_3 (by decide) hi12 <| Runs.iinc (P' := [vr a, vi i1, vi (i2 + (1 : Int32)), vi i3, vi i4, vi i5, vi r5]) d24_99 ci_1 rfl (by decide) rfl <| Runs.iinc (P' := [vr a, vi i1, vi (i2 + (1 : Int32)), vi i3, vi i4, vi (i5 + (1 : Int32)), vi r5]) d24_102 ci_1 rfl (by decide) rfl <| Runs.goto (pc' := 45) d24_105 (by decide) <| Runs.forget [true, true, true, true, true, true, false] rfl <| hk45 (sA ob 3 r5 (3 : Int32)) i1 (i2 + (1 : Int32)) i3 i4 (i5 + (1 : Int32)) hf
      · refine Runs.icY (pc' := 102) d24_77 (feq hc8).2 (by decide) <| ?_
        exact Runs.iinc (P' := [vr a, vi i1, vi i2, vi i3, vi i4, vi (i5 + (1 : Int32)), vi r5]) d24_102 ci_1 rfl (by decide) rfl <| Runs.goto (pc' := 45) d24_105 (by decide) <| Runs.forget [true, true, true, true, true, true, false] rfl <| hk45 ob i1 i2 i3 i4 (i5 + (1 : Int32)) hf
theorem X_prune_l45_p {C : Ctx} {top : Nat} {a : Nat} {H : List (Nat × Nat × Rec)} {res : Int32 × Rec} {NF : Nat} (k26 : Rec → Int32 → Int32 → Int32 → Option (Int32 × Rec)) (hk26 : ∀ (ob : Rec) (i1 : Int32) (i2 : Int32) (i3 : Int32), k26 ob i1 i2 i3 = some res → Runs C B24 0 0 26 [vr a, vi i1, vi i2, vi i3, vn, vn, vn] [] (top, (a, 9, ob) :: H) (Ans (some (.int res.1)) (top, (a, 9, res.2) :: H))) (n : Nat) (ob : Rec) (i1 : Int32) (i2 : Int32) (i3 : Int32) (i4 : Int32) (i5 : Int32) (hf : X_prune_l45 NF k26 n ob i1 i2 i3 i4 i5 = some res) : Runs C B24 0 0 45 [vr a, vi i1, vi i2, vi i3, vi i4, vi i5, vn] [] (top, (a, 9, ob) :: H) (Ans (some (.int res.1)) (top, (a, 9, res.2) :: H)) := by
  induction n generalizing ob i1 i2 i3 i4 i5 with
  | zero => cases (show (none : Option (Int32 × Rec)) = some res from hf)
  | succ n ih => exact X_prune_w45_p k26 hk26 (X_prune_l45 NF k26 n) (fun ob i1 i2 i3 i4 i5 h => ih _ _ _ _ _ _ h) ob i1 i2 i3 i4 i5 hf
def X_prune_w26 (NF : Nat) (k26 : Rec → Int32 → Int32 → Int32 → Option (Int32 × Rec)) (ob : Rec) (i1 : Int32) (i2 : Int32) (i3 : Int32) : Option (Int32 × Rec) :=
  if i3 < (gI ob 0) then
    chk (8 : Int32) i3 <|
    X_prune_l45 NF k26 NF ob i1 i2 i3 (gA ob 0 i3) (1 : Int32)
  else
    some (i2, ob)
def X_prune_l26 (NF : Nat) : Nat → Rec → Int32 → Int32 → Int32 → Option (Int32 × Rec)
  | 0, _, _, _, _ => none
  | n + 1, ob, i1, i2, i3 => X_prune_w26 NF (X_prune_l26 NF n) ob i1 i2 i3
set_option maxRecDepth 65536 in
set_option maxHeartbeats 4000000 in
theorem X_prune_w26_p {C : Ctx} {top : Nat} {a : Nat} {H : List (Nat × Nat × Rec)} {res : Int32 × Rec} {NF : Nat} (k26 : Rec → Int32 → Int32 → Int32 → Option (Int32 × Rec)) (hk26 : ∀ (ob : Rec) (i1 : Int32) (i2 : Int32) (i3 : Int32), k26 ob i1 i2 i3 = some res → Runs C B24 0 0 26 [vr a, vi i1, vi i2, vi i3, vn, vn, vn] [] (top, (a, 9, ob) :: H) (Ans (some (.int res.1)) (top, (a, 9, res.2) :: H))) (ob : Rec) (i1 : Int32) (i2 : Int32) (i3 : Int32) (hf : X_prune_w26 NF k26 ob i1 i2 i3 = some res) : Runs C B24 0 0 26 [vr a, vi i1, vi i2, vi i3, vn, vn, vn] [] (top, (a, 9, ob) :: H) (Ans (some (.int res.1)) (top, (a, 9, res.2) :: H)) := by
  delta X_prune_w26 at hf
  refine Runs.iloadN d24_26 rfl <| Runs.aloadN d24_27 rfl <| Runs.getI d24_28 w29 fS_0 <| ?_
  refine ite_el hf (fun hc1 hf => ?_) (fun hc1 hf => ?_)
  · refine Runs.icN d24_31 (tlt hc1).2.1 <| ?_
    refine Runs.aloadN d24_34 rfl <| Runs.getA d24_35 fA_0 w10 (by decide) <| Runs.iloadN d24_38 rfl <| ?_
    refine chk_el hf fun hi2 hf => ?_
    exact Runs.ialoadA d24_39 fA_0 (by decide) hi2 <| Runs.istore (P' := [vr a, vi i1, vi i2, vi i3, vi (gA ob 0 i3), vn, vn]) d24_40 (by decide) rfl <| Runs.iconst d24_42 ci_1 <| Runs.istore (P' := [vr a, vi i1, vi i2, vi i3, vi (gA ob 0 i3), vi (1 : Int32), vn]) d24_43 (by decide) rfl <| X_prune_l45_p k26 hk26 NF ob i1 i2 i3 (gA ob 0 i3) (1 : Int32) hf
  · refine Runs.icY (pc' := 114) d24_31 (flt hc1).2.1 (by decide) <| ?_
    obtain rfl := Option.some.inj hf
    exact Runs.iloadN d24_114 rfl <| Runs.retI d24_115 rfl ⟨by decide, by decide⟩ ⟨rfl, rfl⟩
theorem X_prune_l26_p {C : Ctx} {top : Nat} {a : Nat} {H : List (Nat × Nat × Rec)} {res : Int32 × Rec} {NF : Nat} (n : Nat) (ob : Rec) (i1 : Int32) (i2 : Int32) (i3 : Int32) (hf : X_prune_l26 NF n ob i1 i2 i3 = some res) : Runs C B24 0 0 26 [vr a, vi i1, vi i2, vi i3, vn, vn, vn] [] (top, (a, 9, ob) :: H) (Ans (some (.int res.1)) (top, (a, 9, res.2) :: H)) := by
  induction n generalizing ob i1 i2 i3 with
  | zero => cases (show (none : Option (Int32 × Rec)) = some res from hf)
  | succ n ih => exact X_prune_w26_p (X_prune_l26 NF n) (fun ob i1 i2 i3 h => ih _ _ _ _ h) ob i1 i2 i3 hf
def X_prune (NF : Nat) (ob : Rec) (i1 : Int32) : Option (Int32 × Rec) :=
  (X_validProc ob i1).bind fun r13 =>
  if r13 = (0 : Int32) then
    some ((-1 : Int32), ob)
  else
    chk (8 : Int32) i1 <|
    if (gA ob 1 i1) = (0 : Int32) then
      X_prune_l26 NF NF ob i1 (0 : Int32) (0 : Int32)
    else
      some ((-2 : Int32), ob)
set_option maxRecDepth 65536 in
set_option maxHeartbeats 4000000 in
theorem X_prune_p {C : Ctx} {top : Nat} {a : Nat} {H : List (Nat × Nat × Rec)} {res : Int32 × Rec} {NF : Nat} (ob : Rec) (i1 : Int32) (hf : X_prune NF ob i1 = some res) : Runs C B24 0 0 0 [vr a, vi i1, vn, vn, vn, vn, vn] [] (top, (a, 9, ob) :: H) (Ans (some (.int res.1)) (top, (a, 9, res.2) :: H)) := by
  delta X_prune at hf
  refine Runs.aloadN d24_0 rfl <| Runs.iloadN d24_1 rfl <| ?_
  refine bind_el hf fun r13 hg14 hf => ?_
  refine Runs.callP (N := B3) (W := 0) (as := [.int i1]) (S' := []) d24_2 w38 w39 w40 rfl cw3 ar3 rk24_3_0 (by decide) rfl rfl (X_validProc_pay hg14) <| ans1 <| ?_
  refine ite_el hf (fun hc15 hf => ?_) (fun hc15 hf => ?_)
  · refine Runs.ifN d24_5 (teq hc15).2 <| ?_
    obtain rfl := Option.some.inj hf
    exact Runs.iconst d24_8 ci_m1 <| Runs.retI d24_9 rfl ⟨by decide, by decide⟩ ⟨rfl, rfl⟩
  · refine Runs.ifY (pc' := 10) d24_5 (feq hc15).2 (by decide) <| ?_
    refine Runs.aloadN d24_10 rfl <| Runs.getA d24_11 fA_1 w13 (by decide) <| Runs.iloadN d24_14 rfl <| ?_
    refine chk_el hf fun hi16 hf => ?_
    refine Runs.baloadA d24_15 fA_1 (by decide) hi16 <| ?_
    refine ite_el hf (fun hc17 hf => ?_) (fun hc17 hf => ?_)
    · refine Runs.ifY (pc' := 22) d24_16 (teq hc17).1 (by decide) <| ?_
      exact Runs.iconst d24_22 ci_0 <| Runs.istoreN (P' := [vr a, vi i1, vi (0 : Int32), vn, vn, vn, vn]) d24_23 (by decide) rfl <| Runs.iconst d24_24 ci_0 <| Runs.istoreN (P' := [vr a, vi i1, vi (0 : Int32), vi (0 : Int32), vn, vn, vn]) d24_25 (by decide) rfl <| X_prune_l26_p NF ob i1 (0 : Int32) (0 : Int32) hf
    · refine Runs.ifN d24_16 (feq hc17).1 <| ?_
      obtain rfl := Option.some.inj hf
      exact Runs.bipush d24_19 cb_m2 <| Runs.retI d24_21 rfl ⟨by decide, by decide⟩ ⟨rfl, rfl⟩
theorem X_prune_pay {C : Ctx} {top : Nat} {a : Nat} {H : List (Nat × Nat × Rec)} {res : Int32 × Rec} {NF : Nat} {ob : Rec} {i1 : Int32} (hf : X_prune NF ob i1 = some res) : Pays C B24 [.ref a, .int i1] (top, (a, 9, ob) :: H) (Ans (some (.int res.1)) (top, (a, 9, res.2) :: H)) :=
  Pays.of pnK (Nat.le_of_ble_eq_true rfl) (P := [vr a, vi i1, vn, vn, vn, vn, vn]) 5 rfl (X_prune_p ob i1 hf)
def X_othersAllCrashed_w2 (NF : Nat) (ob : Rec) (k2 : Int32 → Int32 → Option (Int32)) (i1 : Int32) (i2 : Int32) : Option (Int32) :=
  if i2 < (gI ob 0) then
    if i2 = i1 then
      k2 i1 (i2 + (1 : Int32))
    else
      chk (8 : Int32) i2 <|
      if (gA ob 1 i2) = (0 : Int32) then
        some (0 : Int32)
      else
        k2 i1 (i2 + (1 : Int32))
  else
    some (1 : Int32)
def X_othersAllCrashed_l2 (NF : Nat) (ob : Rec) : Nat → Int32 → Int32 → Option (Int32)
  | 0, _, _ => none
  | n + 1, i1, i2 => X_othersAllCrashed_w2 NF ob (X_othersAllCrashed_l2 NF ob n) i1 i2
set_option maxRecDepth 65536 in
set_option maxHeartbeats 4000000 in
theorem X_othersAllCrashed_w2_p {C : Ctx} {top : Nat} {a : Nat} {H : List (Nat × Nat × Rec)} {ob : Rec} {res : Int32} {NF : Nat} (k2 : Int32 → Int32 → Option (Int32)) (hk2 : ∀ (i1 : Int32) (i2 : Int32), k2 i1 i2 = some res → Runs C B22 0 0 2 [vr a, vi i1, vi i2] [] (top, (a, 9, ob) :: H) (Ans (some (.int res)) (top, (a, 9, ob) :: H))) (i1 : Int32) (i2 : Int32) (hf : X_othersAllCrashed_w2 NF ob k2 i1 i2 = some res) : Runs C B22 0 0 2 [vr a, vi i1, vi i2] [] (top, (a, 9, ob) :: H) (Ans (some (.int res)) (top, (a, 9, ob) :: H)) := by
  delta X_othersAllCrashed_w2 at hf
  refine Runs.iloadN d22_2 rfl <| Runs.aloadN d22_3 rfl <| Runs.getI d22_4 w29 fS_0 <| ?_
  refine ite_el hf (fun hc1 hf => ?_) (fun hc1 hf => ?_)
  · refine Runs.icN d22_7 (tlt hc1).2.1 <| ?_
    refine Runs.iloadN d22_10 rfl <| Runs.iloadN d22_11 rfl <| ?_
    refine ite_el hf (fun hc2 hf => ?_) (fun hc2 hf => ?_)
    · refine Runs.icY (pc' := 26) d22_12 (teq hc2).1 (by decide) <| ?_
      exact Runs.iinc (P' := [vr a, vi i1, vi (i2 + (1 : Int32))]) d22_26 ci_1 rfl (by decide) rfl <| Runs.goto (pc' := 2) d22_29 (by decide) <| hk2 i1 (i2 + (1 : Int32)) hf
    · refine Runs.icN d22_12 (feq hc2).1 <| ?_
      refine Runs.aloadN d22_15 rfl <| Runs.getA d22_16 fA_1 w13 (by decide) <| Runs.iloadN d22_19 rfl <| ?_
      refine chk_el hf fun hi3 hf => ?_
      refine Runs.baloadA d22_20 fA_1 (by decide) hi3 <| ?_
      refine ite_el hf (fun hc4 hf => ?_) (fun hc4 hf => ?_)
      · refine Runs.ifN d22_21 (teq hc4).2 <| ?_
        obtain rfl := Option.some.inj hf
        exact Runs.iconst d22_24 ci_0 <| Runs.retZ (y := (0 : Int32)) d22_25 rfl ⟨by decide, by decide⟩ rfl ⟨rfl, rfl⟩
      · refine Runs.ifY (pc' := 26) d22_21 (feq hc4).2 (by decide) <| ?_
        exact Runs.iinc (P' := [vr a, vi i1, vi (i2 + (1 : Int32))]) d22_26 ci_1 rfl (by decide) rfl <| Runs.goto (pc' := 2) d22_29 (by decide) <| hk2 i1 (i2 + (1 : Int32)) hf
  · refine Runs.icY (pc' := 32) d22_7 (flt hc1).2.1 (by decide) <| ?_
    obtain rfl := Option.some.inj hf
    exact Runs.iconst d22_32 ci_1 <| Runs.retZ (y := (1 : Int32)) d22_33 rfl ⟨by decide, by decide⟩ rfl ⟨rfl, rfl⟩
theorem X_othersAllCrashed_l2_p {C : Ctx} {top : Nat} {a : Nat} {H : List (Nat × Nat × Rec)} {ob : Rec} {res : Int32} {NF : Nat} (n : Nat) (i1 : Int32) (i2 : Int32) (hf : X_othersAllCrashed_l2 NF ob n i1 i2 = some res) : Runs C B22 0 0 2 [vr a, vi i1, vi i2] [] (top, (a, 9, ob) :: H) (Ans (some (.int res)) (top, (a, 9, ob) :: H)) := by
  induction n generalizing i1 i2 with
  | zero => cases (show (none : Option (Int32)) = some res from hf)
  | succ n ih => exact X_othersAllCrashed_w2_p (X_othersAllCrashed_l2 NF ob n) (fun i1 i2 h => ih _ _ h) i1 i2 hf
def X_othersAllCrashed (NF : Nat) (ob : Rec) (i1 : Int32) : Option (Int32) :=
  X_othersAllCrashed_l2 NF ob NF i1 (0 : Int32)
set_option maxRecDepth 65536 in
set_option maxHeartbeats 4000000 in
theorem X_othersAllCrashed_p {C : Ctx} {top : Nat} {a : Nat} {H : List (Nat × Nat × Rec)} {ob : Rec} {res : Int32} {NF : Nat} (i1 : Int32) (hf : X_othersAllCrashed NF ob i1 = some res) : Runs C B22 0 0 0 [vr a, vi i1, vn] [] (top, (a, 9, ob) :: H) (Ans (some (.int res)) (top, (a, 9, ob) :: H)) := by
  delta X_othersAllCrashed at hf
  exact Runs.iconst d22_0 ci_0 <| Runs.istoreN (P' := [vr a, vi i1, vi (0 : Int32)]) d22_1 (by decide) rfl <| X_othersAllCrashed_l2_p NF i1 (0 : Int32) hf
theorem X_othersAllCrashed_pay {C : Ctx} {top : Nat} {a : Nat} {H : List (Nat × Nat × Rec)} {ob : Rec} {res : Int32} {NF : Nat} {i1 : Int32} (hf : X_othersAllCrashed NF ob i1 = some res) : Pays C B22 [.ref a, .int i1] (top, (a, 9, ob) :: H) (Ans (some (.int res)) (top, (a, 9, ob) :: H)) :=
  Pays.of pnK (Nat.le_of_ble_eq_true rfl) (P := [vr a, vi i1, vn]) 1 rfl (X_othersAllCrashed_p i1 hf)
def X_crash (NF : Nat) (ob : Rec) (i1 : Int32) : Option (Int32 × Rec) :=
  (X_validProc ob i1).bind fun r1 =>
  if r1 = (0 : Int32) then
    some ((-1 : Int32), ob)
  else
    chk (8 : Int32) i1 <|
    if (gA ob 1 i1) = (0 : Int32) then
      (X_othersAllCrashed NF ob i1).bind fun r6 =>
      if r6 = (0 : Int32) then
        chk (8 : Int32) i1 <|
        some ((0 : Int32), (sA ob 1 i1 (1 : Int32)))
      else
        some ((-7 : Int32), ob)
    else
      some ((-2 : Int32), ob)
set_option maxRecDepth 65536 in
set_option maxHeartbeats 4000000 in
theorem X_crash_p {C : Ctx} {top : Nat} {a : Nat} {H : List (Nat × Nat × Rec)} {res : Int32 × Rec} {NF : Nat} (ob : Rec) (i1 : Int32) (hf : X_crash NF ob i1 = some res) : Runs C B21 0 0 0 [vr a, vi i1] [] (top, (a, 9, ob) :: H) (Ans (some (.int res.1)) (top, (a, 9, res.2) :: H)) := by
  delta X_crash at hf
  refine Runs.aloadN d21_0 rfl <| Runs.iloadN d21_1 rfl <| ?_
  refine bind_el hf fun r1 hg2 hf => ?_
  refine Runs.callP (N := B3) (W := 0) (as := [.int i1]) (S' := []) d21_2 w38 w39 w40 rfl cw3 ar3 rk21_3_0 (by decide) rfl rfl (X_validProc_pay hg2) <| ans1 <| ?_
  refine ite_el hf (fun hc3 hf => ?_) (fun hc3 hf => ?_)
  · refine Runs.ifN d21_5 (teq hc3).2 <| ?_
    obtain rfl := Option.some.inj hf
    exact Runs.iconst d21_8 ci_m1 <| Runs.retI d21_9 rfl ⟨by decide, by decide⟩ ⟨rfl, rfl⟩
  · refine Runs.ifY (pc' := 10) d21_5 (feq hc3).2 (by decide) <| ?_
    refine Runs.aloadN d21_10 rfl <| Runs.getA d21_11 fA_1 w13 (by decide) <| Runs.iloadN d21_14 rfl <| ?_
    refine chk_el hf fun hi4 hf => ?_
    refine Runs.baloadA d21_15 fA_1 (by decide) hi4 <| ?_
    refine ite_el hf (fun hc5 hf => ?_) (fun hc5 hf => ?_)
    · refine Runs.ifY (pc' := 22) d21_16 (teq hc5).1 (by decide) <| ?_
      refine Runs.aloadN d21_22 rfl <| Runs.iloadN d21_23 rfl <| ?_
      refine bind_el hf fun r6 hg7 hf => ?_
      refine Runs.callP (N := B22) (W := 0) (as := [.int i1]) (S' := []) d21_24 w123 w124 w125 rfl cw22 ar22 rk21_22_0 (by decide) rfl rfl (X_othersAllCrashed_pay hg7) <| ans1 <| ?_
      refine ite_el hf (fun hc8 hf => ?_) (fun hc8 hf => ?_)
      · refine Runs.ifY (pc' := 33) d21_27 (teq hc8).1 (by decide) <| ?_
        refine Runs.aloadN d21_33 rfl <| Runs.getA d21_34 fA_1 w13 (by decide) <| Runs.iloadN d21_37 rfl <| Runs.iconst d21_38 ci_1 <| ?_
        refine chk_el hf fun hi9 hf => ?_
        obtain rfl := Option.some.inj hf
        exact Runs.bastoreA (y := (1 : Int32)) d21_39 fA_1 (by decide) hi9 rfl <| Runs.iconst d21_40 ci_0 <| Runs.retI d21_41 rfl ⟨by decide, by decide⟩ ⟨rfl, rfl⟩
      · refine Runs.ifN d21_27 (feq hc8).1 <| ?_
        obtain rfl := Option.some.inj hf
        exact Runs.bipush d21_30 cb_m7 <| Runs.retI d21_32 rfl ⟨by decide, by decide⟩ ⟨rfl, rfl⟩
    · refine Runs.ifN d21_16 (feq hc5).1 <| ?_
      obtain rfl := Option.some.inj hf
      exact Runs.bipush d21_19 cb_m2 <| Runs.retI d21_21 rfl ⟨by decide, by decide⟩ ⟨rfl, rfl⟩
theorem X_crash_pay {C : Ctx} {top : Nat} {a : Nat} {H : List (Nat × Nat × Rec)} {res : Int32 × Rec} {NF : Nat} {ob : Rec} {i1 : Int32} (hf : X_crash NF ob i1 = some res) : Pays C B21 [.ref a, .int i1] (top, (a, 9, ob) :: H) (Ans (some (.int res.1)) (top, (a, 9, res.2) :: H)) :=
  Pays.of pnK (Nat.le_of_ble_eq_true rfl) (P := [vr a, vi i1]) 0 rfl (X_crash_p ob i1 hf)
def X_copies (ob : Rec) (i1 : Int32) (i2 : Int32) (i3 : Int32) : Option (Int32) :=
  (X_exists ob i1 i2).bind fun r1 =>
  if r1 = (0 : Int32) then
    some (-1 : Int32)
  else
    (X_validProc ob i3).bind fun r4 =>
    if r4 = (0 : Int32) then
      some (-1 : Int32)
    else
      (X_copyIndex ob i1 i2 i3).bind fun r7 =>
      chk (512 : Int32) r7 <|
      some (gA ob 5 r7)
set_option maxRecDepth 65536 in
set_option maxHeartbeats 4000000 in
theorem X_copies_p {C : Ctx} {top : Nat} {a : Nat} {H : List (Nat × Nat × Rec)} {ob : Rec} {res : Int32} (i1 : Int32) (i2 : Int32) (i3 : Int32) (hf : X_copies ob i1 i2 i3 = some res) : Runs C B9 0 0 0 [vr a, vi i1, vi i2, vi i3, vn] [] (top, (a, 9, ob) :: H) (Ans (some (.int res)) (top, (a, 9, ob) :: H)) := by
  delta X_copies at hf
  refine Runs.aloadN d9_0 rfl <| Runs.iloadN d9_1 rfl <| Runs.iloadN d9_2 rfl <| ?_
  refine bind_el hf fun r1 hg2 hf => ?_
  refine Runs.callP (N := B10) (W := 0) (as := [.int i1, .int i2]) (S' := []) d9_3 w68 w69 w70 rfl cw10 ar10 rk9_10_0 (by decide) rfl rfl (X_exists_pay hg2) <| ans1 <| ?_
  refine ite_el hf (fun hc3 hf => ?_) (fun hc3 hf => ?_)
  · refine Runs.ifY (pc' := 17) d9_6 (teq hc3).1 (by decide) <| ?_
    obtain rfl := Option.some.inj hf
    exact Runs.iconst d9_17 ci_m1 <| Runs.retI d9_18 rfl ⟨by decide, by decide⟩ ⟨rfl, rfl⟩
  · refine Runs.ifN d9_6 (feq hc3).1 <| ?_
    refine Runs.aloadN d9_9 rfl <| Runs.iloadN d9_10 rfl <| ?_
    refine bind_el hf fun r4 hg5 hf => ?_
    refine Runs.callP (N := B3) (W := 0) (as := [.int i3]) (S' := []) d9_11 w38 w39 w40 rfl cw3 ar3 rk9_3_0 (by decide) rfl rfl (X_validProc_pay hg5) <| ans1 <| ?_
    refine ite_el hf (fun hc6 hf => ?_) (fun hc6 hf => ?_)
    · refine Runs.ifN d9_14 (teq hc6).2 <| ?_
      obtain rfl := Option.some.inj hf
      exact Runs.iconst d9_17 ci_m1 <| Runs.retI d9_18 rfl ⟨by decide, by decide⟩ ⟨rfl, rfl⟩
    · refine Runs.ifY (pc' := 19) d9_14 (feq hc6).2 (by decide) <| ?_
      refine Runs.aloadN d9_19 rfl <| Runs.iloadN d9_20 rfl <| Runs.iloadN d9_21 rfl <| Runs.iloadN d9_22 rfl <| ?_
      refine bind_el hf fun r7 hg8 hf => ?_
      refine Runs.callP (N := B11) (W := 0) (as := [.int i1, .int i2, .int i3]) (S' := []) d9_23 w72 w73 w74 rfl cw11 ar11 rk9_11_0 (by decide) rfl rfl (X_copyIndex_pay hg8) <| ans1 <| Runs.istore (P' := [vr a, vi i1, vi i2, vi i3, vi r7]) d9_26 (by decide) rfl <| Runs.aloadN d9_28 rfl <| Runs.getA d9_29 fA_5 w21 (by decide) <| Runs.iload d9_32 rfl <| ?_
      refine chk_el hf fun hi9 hf => ?_
      obtain rfl := Option.some.inj hf
      exact Runs.ialoadA d9_34 fA_5 (by decide) hi9 <| Runs.retI d9_35 rfl ⟨by decide, by decide⟩ ⟨rfl, rfl⟩
theorem X_copies_pay {C : Ctx} {top : Nat} {a : Nat} {H : List (Nat × Nat × Rec)} {ob : Rec} {res : Int32} {i1 : Int32} {i2 : Int32} {i3 : Int32} (hf : X_copies ob i1 i2 i3 = some res) : Pays C B9 [.ref a, .int i1, .int i2, .int i3] (top, (a, 9, ob) :: H) (Ans (some (.int res)) (top, (a, 9, ob) :: H)) :=
  Pays.of pnK (Nat.le_of_ble_eq_true rfl) (P := [vr a, vi i1, vi i2, vi i3, vn]) 1 rfl (X_copies_p i1 i2 i3 hf)
def L_copySum_w4 (NF : Nat) (ob : Rec) (k4 : Int32 → Int32 → Option (Int32)) (i1 : Int32) (i2 : Int32) : Option (Int32) :=
  if i2 < (36 : Int32) then
    (X_copies ob (i2 / (12 : Int32)) (((i2 / (3 : Int32)) % (4 : Int32)) + (1 : Int32)) (i2 % (3 : Int32))).bind fun r2 =>
    if (0 : Int32) < r2 then
      k4 (i1 + r2) (i2 + (1 : Int32))
    else
      k4 i1 (i2 + (1 : Int32))
  else
    some i1
def L_copySum_l4 (NF : Nat) (ob : Rec) : Nat → Int32 → Int32 → Option (Int32)
  | 0, _, _ => none
  | n + 1, i1, i2 => L_copySum_w4 NF ob (L_copySum_l4 NF ob n) i1 i2
set_option maxRecDepth 65536 in
set_option maxHeartbeats 4000000 in
theorem L_copySum_w4_p {C : Ctx} {top : Nat} {a : Nat} {H : List (Nat × Nat × Rec)} {ob : Rec} {res : Int32} {NF : Nat} (k4 : Int32 → Int32 → Option (Int32)) (hk4 : ∀ (i1 : Int32) (i2 : Int32), k4 i1 i2 = some res → Runs C B8 0 0 4 [vr a, vi i1, vi i2, vn] [] (top, (a, 9, ob) :: H) (Ans (some (.int res)) (top, (a, 9, ob) :: H))) (i1 : Int32) (i2 : Int32) (hf : L_copySum_w4 NF ob k4 i1 i2 = some res) : Runs C B8 0 0 4 [vr a, vi i1, vi i2, vn] [] (top, (a, 9, ob) :: H) (Ans (some (.int res)) (top, (a, 9, ob) :: H)) := by
  delta L_copySum_w4 at hf
  refine Runs.iloadN d8_4 rfl <| Runs.bipush d8_5 cb_36 <| ?_
  refine ite_el hf (fun hc1 hf => ?_) (fun hc1 hf => ?_)
  · refine Runs.icN d8_7 (tlt hc1).2.1 <| ?_
    refine Runs.aloadN d8_10 rfl <| Runs.iloadN d8_11 rfl <| Runs.bipush d8_12 cb_12 <| Runs.idiv d8_14 (by decide) <| Runs.iloadN d8_15 rfl <| Runs.iconst d8_16 ci_3 <| Runs.idiv d8_17 (by decide) <| Runs.iconst d8_18 ci_4 <| Runs.irem d8_19 (by decide) <| Runs.iconst d8_20 ci_1 <| Runs.iadd d8_21 <| Runs.iloadN d8_22 rfl <| ?_
    refine Runs.iconst d8_23 ci_3 <| Runs.irem d8_24 (by decide) <| ?_
    refine bind_el hf fun r2 hg3 hf => ?_
    refine Runs.callV (N := B9) (W := 0) (as := [.int (i2 / (12 : Int32)), .int (((i2 / (3 : Int32)) % (4 : Int32)) + (1 : Int32)), .int (i2 % (3 : Int32))]) (S' := []) d8_25 w63 w64 w65 w66 cw9 ar9 rk8_9_0 (by decide) rfl rfl (X_copies_pay hg3) <| ans1 <| Runs.istoreN (P' := [vr a, vi i1, vi i2, vi r2]) d8_28 (by decide) rfl <| Runs.iloadN d8_29 rfl <| ?_
    refine ite_el hf (fun hc4 hf => ?_) (fun hc4 hf => ?_)
    · refine Runs.ifN d8_30 (tlt hc4).2.2.2 <| ?_
      exact Runs.iloadN d8_33 rfl <| Runs.iloadN d8_34 rfl <| Runs.iadd d8_35 <| Runs.istoreN (P' := [vr a, vi (i1 + r2), vi i2, vi r2]) d8_36 (by decide) rfl <| Runs.iinc (P' := [vr a, vi (i1 + r2), vi (i2 + (1 : Int32)), vi r2]) d8_37 ci_1 rfl (by decide) rfl <| Runs.goto (pc' := 4) d8_40 (by decide) <| Runs.forget [true, true, true, false] rfl <| hk4 (i1 + r2) (i2 + (1 : Int32)) hf
    · refine Runs.ifY (pc' := 37) d8_30 (flt hc4).2.2.2 (by decide) <| ?_
      exact Runs.iinc (P' := [vr a, vi i1, vi (i2 + (1 : Int32)), vi r2]) d8_37 ci_1 rfl (by decide) rfl <| Runs.goto (pc' := 4) d8_40 (by decide) <| Runs.forget [true, true, true, false] rfl <| hk4 i1 (i2 + (1 : Int32)) hf
  · refine Runs.icY (pc' := 43) d8_7 (flt hc1).2.1 (by decide) <| ?_
    obtain rfl := Option.some.inj hf
    exact Runs.iloadN d8_43 rfl <| Runs.retI d8_44 rfl ⟨by decide, by decide⟩ ⟨rfl, rfl⟩
theorem L_copySum_l4_p {C : Ctx} {top : Nat} {a : Nat} {H : List (Nat × Nat × Rec)} {ob : Rec} {res : Int32} {NF : Nat} (n : Nat) (i1 : Int32) (i2 : Int32) (hf : L_copySum_l4 NF ob n i1 i2 = some res) : Runs C B8 0 0 4 [vr a, vi i1, vi i2, vn] [] (top, (a, 9, ob) :: H) (Ans (some (.int res)) (top, (a, 9, ob) :: H)) := by
  induction n generalizing i1 i2 with
  | zero => cases (show (none : Option (Int32)) = some res from hf)
  | succ n ih => exact L_copySum_w4_p (L_copySum_l4 NF ob n) (fun i1 i2 h => ih _ _ h) i1 i2 hf
def L_copySum (NF : Nat) (ob : Rec) : Option (Int32) :=
  L_copySum_l4 NF ob NF (0 : Int32) (0 : Int32)
set_option maxRecDepth 65536 in
set_option maxHeartbeats 4000000 in
theorem L_copySum_p {C : Ctx} {top : Nat} {a : Nat} {H : List (Nat × Nat × Rec)} {ob : Rec} {res : Int32} {NF : Nat} (hf : L_copySum NF ob = some res) : Runs C B8 0 0 0 [vr a, vn, vn, vn] [] (top, (a, 9, ob) :: H) (Ans (some (.int res)) (top, (a, 9, ob) :: H)) := by
  delta L_copySum at hf
  exact Runs.iconst d8_0 ci_0 <| Runs.istoreN (P' := [vr a, vi (0 : Int32), vn, vn]) d8_1 (by decide) rfl <| Runs.iconst d8_2 ci_0 <| Runs.istoreN (P' := [vr a, vi (0 : Int32), vi (0 : Int32), vn]) d8_3 (by decide) rfl <| L_copySum_l4_p NF (0 : Int32) (0 : Int32) hf
theorem L_copySum_pay {C : Ctx} {top : Nat} {a : Nat} {H : List (Nat × Nat × Rec)} {ob : Rec} {res : Int32} {NF : Nat} (hf : L_copySum NF ob = some res) : Pays C B8 [.ref a] (top, (a, 9, ob) :: H) (Ans (some (.int res)) (top, (a, 9, ob) :: H)) :=
  Pays.of pnL (Nat.le_of_ble_eq_true rfl) (P := [vr a, vn, vn, vn]) 3 rfl (L_copySum_p hf)
def X_state (ob : Rec) (i1 : Int32) (i2 : Int32) (i3 : Int32) : Option (Int32) :=
  (X_validProc ob i1).bind fun r1 =>
  if r1 = (0 : Int32) then
    some (-1 : Int32)
  else
    (X_exists ob i2 i3).bind fun r4 =>
    if r4 = (0 : Int32) then
      some (-1 : Int32)
    else
      (X_stateIndex ob i1 i2 i3).bind fun r7 =>
      chk (512 : Int32) r7 <|
      some (gA ob 3 r7)
set_option maxRecDepth 65536 in
set_option maxHeartbeats 4000000 in
theorem X_state_p {C : Ctx} {top : Nat} {a : Nat} {H : List (Nat × Nat × Rec)} {ob : Rec} {res : Int32} (i1 : Int32) (i2 : Int32) (i3 : Int32) (hf : X_state ob i1 i2 i3 = some res) : Runs C B13 0 0 0 [vr a, vi i1, vi i2, vi i3, vn] [] (top, (a, 9, ob) :: H) (Ans (some (.int res)) (top, (a, 9, ob) :: H)) := by
  delta X_state at hf
  refine Runs.aloadN d13_0 rfl <| Runs.iloadN d13_1 rfl <| ?_
  refine bind_el hf fun r1 hg2 hf => ?_
  refine Runs.callP (N := B3) (W := 0) (as := [.int i1]) (S' := []) d13_2 w38 w39 w40 rfl cw3 ar3 rk13_3_0 (by decide) rfl rfl (X_validProc_pay hg2) <| ans1 <| ?_
  refine ite_el hf (fun hc3 hf => ?_) (fun hc3 hf => ?_)
  · refine Runs.ifY (pc' := 17) d13_5 (teq hc3).1 (by decide) <| ?_
    obtain rfl := Option.some.inj hf
    exact Runs.iconst d13_17 ci_m1 <| Runs.retI d13_18 rfl ⟨by decide, by decide⟩ ⟨rfl, rfl⟩
  · refine Runs.ifN d13_5 (feq hc3).1 <| ?_
    refine Runs.aloadN d13_8 rfl <| Runs.iloadN d13_9 rfl <| Runs.iloadN d13_10 rfl <| ?_
    refine bind_el hf fun r4 hg5 hf => ?_
    refine Runs.callP (N := B10) (W := 0) (as := [.int i2, .int i3]) (S' := []) d13_11 w68 w69 w70 rfl cw10 ar10 rk13_10_0 (by decide) rfl rfl (X_exists_pay hg5) <| ans1 <| ?_
    refine ite_el hf (fun hc6 hf => ?_) (fun hc6 hf => ?_)
    · refine Runs.ifN d13_14 (teq hc6).2 <| ?_
      obtain rfl := Option.some.inj hf
      exact Runs.iconst d13_17 ci_m1 <| Runs.retI d13_18 rfl ⟨by decide, by decide⟩ ⟨rfl, rfl⟩
    · refine Runs.ifY (pc' := 19) d13_14 (feq hc6).2 (by decide) <| ?_
      refine Runs.aloadN d13_19 rfl <| Runs.iloadN d13_20 rfl <| Runs.iloadN d13_21 rfl <| Runs.iloadN d13_22 rfl <| ?_
      refine bind_el hf fun r7 hg8 hf => ?_
      refine Runs.callP (N := B6) (W := 0) (as := [.int i1, .int i2, .int i3]) (S' := []) d13_23 w50 w51 w52 rfl cw6 ar6 rk13_6_0 (by decide) rfl rfl (X_stateIndex_pay hg8) <| ans1 <| Runs.istore (P' := [vr a, vi i1, vi i2, vi i3, vi r7]) d13_26 (by decide) rfl <| Runs.aloadN d13_28 rfl <| Runs.getA d13_29 fA_3 w17 (by decide) <| Runs.iload d13_32 rfl <| ?_
      refine chk_el hf fun hi9 hf => ?_
      obtain rfl := Option.some.inj hf
      exact Runs.ialoadA d13_34 fA_3 (by decide) hi9 <| Runs.retI d13_35 rfl ⟨by decide, by decide⟩ ⟨rfl, rfl⟩
theorem X_state_pay {C : Ctx} {top : Nat} {a : Nat} {H : List (Nat × Nat × Rec)} {ob : Rec} {res : Int32} {i1 : Int32} {i2 : Int32} {i3 : Int32} (hf : X_state ob i1 i2 i3 = some res) : Pays C B13 [.ref a, .int i1, .int i2, .int i3] (top, (a, 9, ob) :: H) (Ans (some (.int res)) (top, (a, 9, ob) :: H)) :=
  Pays.of pnK (Nat.le_of_ble_eq_true rfl) (P := [vr a, vi i1, vi i2, vi i3, vn]) 1 rfl (X_state_p i1 i2 i3 hf)
def L_prunedCount_w4 (NF : Nat) (ob : Rec) (k4 : Int32 → Int32 → Option (Int32)) (i1 : Int32) (i2 : Int32) : Option (Int32) :=
  if i2 < (36 : Int32) then
    (X_state ob (i2 % (3 : Int32)) (i2 / (12 : Int32)) (((i2 / (3 : Int32)) % (4 : Int32)) + (1 : Int32))).bind fun r2 =>
    if r2 = (3 : Int32) then
      k4 (i1 + (1 : Int32)) (i2 + (1 : Int32))
    else
      k4 i1 (i2 + (1 : Int32))
  else
    some i1
def L_prunedCount_l4 (NF : Nat) (ob : Rec) : Nat → Int32 → Int32 → Option (Int32)
  | 0, _, _ => none
  | n + 1, i1, i2 => L_prunedCount_w4 NF ob (L_prunedCount_l4 NF ob n) i1 i2
set_option maxRecDepth 65536 in
set_option maxHeartbeats 4000000 in
theorem L_prunedCount_w4_p {C : Ctx} {top : Nat} {a : Nat} {H : List (Nat × Nat × Rec)} {ob : Rec} {res : Int32} {NF : Nat} (k4 : Int32 → Int32 → Option (Int32)) (hk4 : ∀ (i1 : Int32) (i2 : Int32), k4 i1 i2 = some res → Runs C B12 0 0 4 [vr a, vi i1, vi i2] [] (top, (a, 9, ob) :: H) (Ans (some (.int res)) (top, (a, 9, ob) :: H))) (i1 : Int32) (i2 : Int32) (hf : L_prunedCount_w4 NF ob k4 i1 i2 = some res) : Runs C B12 0 0 4 [vr a, vi i1, vi i2] [] (top, (a, 9, ob) :: H) (Ans (some (.int res)) (top, (a, 9, ob) :: H)) := by
  delta L_prunedCount_w4 at hf
  refine Runs.iloadN d12_4 rfl <| Runs.bipush d12_5 cb_36 <| ?_
  refine ite_el hf (fun hc1 hf => ?_) (fun hc1 hf => ?_)
  · refine Runs.icN d12_7 (tlt hc1).2.1 <| ?_
    refine Runs.aloadN d12_10 rfl <| Runs.iloadN d12_11 rfl <| Runs.iconst d12_12 ci_3 <| Runs.irem d12_13 (by decide) <| Runs.iloadN d12_14 rfl <| Runs.bipush d12_15 cb_12 <| Runs.idiv d12_17 (by decide) <| Runs.iloadN d12_18 rfl <| Runs.iconst d12_19 ci_3 <| Runs.idiv d12_20 (by decide) <| Runs.iconst d12_21 ci_4 <| Runs.irem d12_22 (by decide) <| ?_
    refine Runs.iconst d12_23 ci_1 <| Runs.iadd d12_24 <| ?_
    refine bind_el hf fun r2 hg3 hf => ?_
    refine Runs.callV (N := B13) (W := 0) (as := [.int (i2 % (3 : Int32)), .int (i2 / (12 : Int32)), .int (((i2 / (3 : Int32)) % (4 : Int32)) + (1 : Int32))]) (S' := []) d12_25 w79 w80 w81 w82 cw13 ar13 rk12_13_0 (by decide) rfl rfl (X_state_pay hg3) <| ans1 <| Runs.iconst d12_28 ci_3 <| ?_
    refine ite_el hf (fun hc4 hf => ?_) (fun hc4 hf => ?_)
    · refine Runs.icN d12_29 (teq hc4).2 <| ?_
      exact Runs.iinc (P' := [vr a, vi (i1 + (1 : Int32)), vi i2]) d12_32 ci_1 rfl (by decide) rfl <| Runs.iinc (P' := [vr a, vi (i1 + (1 : Int32)), vi (i2 + (1 : Int32))]) d12_35 ci_1 rfl (by decide) rfl <| Runs.goto (pc' := 4) d12_38 (by decide) <| hk4 (i1 + (1 : Int32)) (i2 + (1 : Int32)) hf
    · refine Runs.icY (pc' := 35) d12_29 (feq hc4).2 (by decide) <| ?_
      exact Runs.iinc (P' := [vr a, vi i1, vi (i2 + (1 : Int32))]) d12_35 ci_1 rfl (by decide) rfl <| Runs.goto (pc' := 4) d12_38 (by decide) <| hk4 i1 (i2 + (1 : Int32)) hf
  · refine Runs.icY (pc' := 41) d12_7 (flt hc1).2.1 (by decide) <| ?_
    obtain rfl := Option.some.inj hf
    exact Runs.iloadN d12_41 rfl <| Runs.retI d12_42 rfl ⟨by decide, by decide⟩ ⟨rfl, rfl⟩
theorem L_prunedCount_l4_p {C : Ctx} {top : Nat} {a : Nat} {H : List (Nat × Nat × Rec)} {ob : Rec} {res : Int32} {NF : Nat} (n : Nat) (i1 : Int32) (i2 : Int32) (hf : L_prunedCount_l4 NF ob n i1 i2 = some res) : Runs C B12 0 0 4 [vr a, vi i1, vi i2] [] (top, (a, 9, ob) :: H) (Ans (some (.int res)) (top, (a, 9, ob) :: H)) := by
  induction n generalizing i1 i2 with
  | zero => cases (show (none : Option (Int32)) = some res from hf)
  | succ n ih => exact L_prunedCount_w4_p (L_prunedCount_l4 NF ob n) (fun i1 i2 h => ih _ _ h) i1 i2 hf
def L_prunedCount (NF : Nat) (ob : Rec) : Option (Int32) :=
  L_prunedCount_l4 NF ob NF (0 : Int32) (0 : Int32)
set_option maxRecDepth 65536 in
set_option maxHeartbeats 4000000 in
theorem L_prunedCount_p {C : Ctx} {top : Nat} {a : Nat} {H : List (Nat × Nat × Rec)} {ob : Rec} {res : Int32} {NF : Nat} (hf : L_prunedCount NF ob = some res) : Runs C B12 0 0 0 [vr a, vn, vn] [] (top, (a, 9, ob) :: H) (Ans (some (.int res)) (top, (a, 9, ob) :: H)) := by
  delta L_prunedCount at hf
  exact Runs.iconst d12_0 ci_0 <| Runs.istoreN (P' := [vr a, vi (0 : Int32), vn]) d12_1 (by decide) rfl <| Runs.iconst d12_2 ci_0 <| Runs.istoreN (P' := [vr a, vi (0 : Int32), vi (0 : Int32)]) d12_3 (by decide) rfl <| L_prunedCount_l4_p NF (0 : Int32) (0 : Int32) hf
theorem L_prunedCount_pay {C : Ctx} {top : Nat} {a : Nat} {H : List (Nat × Nat × Rec)} {ob : Rec} {res : Int32} {NF : Nat} (hf : L_prunedCount NF ob = some res) : Pays C B12 [.ref a] (top, (a, 9, ob) :: H) (Ans (some (.int res)) (top, (a, 9, ob) :: H)) :=
  Pays.of pnL (Nat.le_of_ble_eq_true rfl) (P := [vr a, vn, vn]) 2 rfl (L_prunedCount_p hf)
def X_sent (ob : Rec) (i1 : Int32) : Option (Int32) :=
  (X_validProc ob i1).bind fun r1 =>
  if r1 = (0 : Int32) then
    some (-1 : Int32)
  else
    chk (8 : Int32) i1 <|
    some (gA ob 0 i1)
set_option maxRecDepth 65536 in
set_option maxHeartbeats 4000000 in
theorem X_sent_p {C : Ctx} {top : Nat} {a : Nat} {H : List (Nat × Nat × Rec)} {ob : Rec} {res : Int32} (i1 : Int32) (hf : X_sent ob i1 = some res) : Runs C B15 0 0 0 [vr a, vi i1] [] (top, (a, 9, ob) :: H) (Ans (some (.int res)) (top, (a, 9, ob) :: H)) := by
  delta X_sent at hf
  refine Runs.aloadN d15_0 rfl <| Runs.iloadN d15_1 rfl <| ?_
  refine bind_el hf fun r1 hg2 hf => ?_
  refine Runs.callP (N := B3) (W := 0) (as := [.int i1]) (S' := []) d15_2 w38 w39 w40 rfl cw3 ar3 rk15_3_0 (by decide) rfl rfl (X_validProc_pay hg2) <| ans1 <| ?_
  refine ite_el hf (fun hc3 hf => ?_) (fun hc3 hf => ?_)
  · refine Runs.ifN d15_5 (teq hc3).2 <| ?_
    obtain rfl := Option.some.inj hf
    exact Runs.iconst d15_8 ci_m1 <| Runs.retI d15_9 rfl ⟨by decide, by decide⟩ ⟨rfl, rfl⟩
  · refine Runs.ifY (pc' := 10) d15_5 (feq hc3).2 (by decide) <| ?_
    refine Runs.aloadN d15_10 rfl <| Runs.getA d15_11 fA_0 w10 (by decide) <| Runs.iloadN d15_14 rfl <| ?_
    refine chk_el hf fun hi4 hf => ?_
    obtain rfl := Option.some.inj hf
    exact Runs.ialoadA d15_15 fA_0 (by decide) hi4 <| Runs.retI d15_16 rfl ⟨by decide, by decide⟩ ⟨rfl, rfl⟩
theorem X_sent_pay {C : Ctx} {top : Nat} {a : Nat} {H : List (Nat × Nat × Rec)} {ob : Rec} {res : Int32} {i1 : Int32} (hf : X_sent ob i1 = some res) : Pays C B15 [.ref a, .int i1] (top, (a, 9, ob) :: H) (Ans (some (.int res)) (top, (a, 9, ob) :: H)) :=
  Pays.of pnK (Nat.le_of_ble_eq_true rfl) (P := [vr a, vi i1]) 0 rfl (X_sent_p i1 hf)
def X_isCrashed (ob : Rec) (i1 : Int32) : Option (Int32) :=
  (X_validProc ob i1).bind fun r1 =>
  if r1 = (0 : Int32) then
    some (0 : Int32)
  else
    chk (8 : Int32) i1 <|
    some ((gA ob 1 i1) &&& 1)
set_option maxRecDepth 65536 in
set_option maxHeartbeats 4000000 in
theorem X_isCrashed_p {C : Ctx} {top : Nat} {a : Nat} {H : List (Nat × Nat × Rec)} {ob : Rec} {res : Int32} (i1 : Int32) (hf : X_isCrashed ob i1 = some res) : Runs C B16 0 0 0 [vr a, vi i1] [] (top, (a, 9, ob) :: H) (Ans (some (.int res)) (top, (a, 9, ob) :: H)) := by
  delta X_isCrashed at hf
  refine Runs.aloadN d16_0 rfl <| Runs.iloadN d16_1 rfl <| ?_
  refine bind_el hf fun r1 hg2 hf => ?_
  refine Runs.callP (N := B3) (W := 0) (as := [.int i1]) (S' := []) d16_2 w38 w39 w40 rfl cw3 ar3 rk16_3_0 (by decide) rfl rfl (X_validProc_pay hg2) <| ans1 <| ?_
  refine ite_el hf (fun hc3 hf => ?_) (fun hc3 hf => ?_)
  · refine Runs.ifN d16_5 (teq hc3).2 <| ?_
    obtain rfl := Option.some.inj hf
    exact Runs.iconst d16_8 ci_0 <| Runs.retZ (y := (0 : Int32)) d16_9 rfl ⟨by decide, by decide⟩ rfl ⟨rfl, rfl⟩
  · refine Runs.ifY (pc' := 10) d16_5 (feq hc3).2 (by decide) <| ?_
    refine Runs.aloadN d16_10 rfl <| Runs.getA d16_11 fA_1 w13 (by decide) <| Runs.iloadN d16_14 rfl <| ?_
    refine chk_el hf fun hi4 hf => ?_
    obtain rfl := Option.some.inj hf
    exact Runs.baloadA d16_15 fA_1 (by decide) hi4 <| Runs.retZ (y := ((gA ob 1 i1) &&& 1)) d16_16 rfl ⟨by decide, by decide⟩ rfl ⟨rfl, rfl⟩
theorem X_isCrashed_pay {C : Ctx} {top : Nat} {a : Nat} {H : List (Nat × Nat × Rec)} {ob : Rec} {res : Int32} {i1 : Int32} (hf : X_isCrashed ob i1 = some res) : Pays C B16 [.ref a, .int i1] (top, (a, 9, ob) :: H) (Ans (some (.int res)) (top, (a, 9, ob) :: H)) :=
  Pays.of pnK (Nat.le_of_ble_eq_true rfl) (P := [vr a, vi i1]) 0 rfl (X_isCrashed_p i1 hf)
def X_deliveredAt (ob : Rec) (i1 : Int32) (i2 : Int32) : Option (Int32) :=
  (X_validProc ob i1).bind fun r1 =>
  if r1 = (0 : Int32) then
    some (-1 : Int32)
  else
    if i2 < (0 : Int32) then
      some (-1 : Int32)
    else
      chk (8 : Int32) i1 <|
      if i2 < (gA ob 8 i1) then
        if i2 < (64 : Int32) then
          chk (512 : Int32) ((i1 * (64 : Int32)) + i2) <|
          some (gA ob 7 ((i1 * (64 : Int32)) + i2))
        else
          some (-1 : Int32)
      else
        some (-1 : Int32)
set_option maxRecDepth 65536 in
set_option maxHeartbeats 4000000 in
theorem X_deliveredAt_p {C : Ctx} {top : Nat} {a : Nat} {H : List (Nat × Nat × Rec)} {ob : Rec} {res : Int32} (i1 : Int32) (i2 : Int32) (hf : X_deliveredAt ob i1 i2 = some res) : Runs C B17 0 0 0 [vr a, vi i1, vi i2] [] (top, (a, 9, ob) :: H) (Ans (some (.int res)) (top, (a, 9, ob) :: H)) := by
  delta X_deliveredAt at hf
  refine Runs.aloadN d17_0 rfl <| Runs.iloadN d17_1 rfl <| ?_
  refine bind_el hf fun r1 hg2 hf => ?_
  refine Runs.callP (N := B3) (W := 0) (as := [.int i1]) (S' := []) d17_2 w38 w39 w40 rfl cw3 ar3 rk17_3_0 (by decide) rfl rfl (X_validProc_pay hg2) <| ans1 <| ?_
  refine ite_el hf (fun hc3 hf => ?_) (fun hc3 hf => ?_)
  · refine Runs.ifN d17_5 (teq hc3).2 <| ?_
    obtain rfl := Option.some.inj hf
    exact Runs.iconst d17_8 ci_m1 <| Runs.retI d17_9 rfl ⟨by decide, by decide⟩ ⟨rfl, rfl⟩
  · refine Runs.ifY (pc' := 10) d17_5 (feq hc3).2 (by decide) <| ?_
    refine Runs.iloadN d17_10 rfl <| ?_
    refine ite_el hf (fun hc4 hf => ?_) (fun hc4 hf => ?_)
    · refine Runs.ifY (pc' := 30) d17_11 (tlt hc4).1 (by decide) <| ?_
      obtain rfl := Option.some.inj hf
      exact Runs.iconst d17_30 ci_m1 <| Runs.retI d17_31 rfl ⟨by decide, by decide⟩ ⟨rfl, rfl⟩
    · refine Runs.ifN d17_11 (flt hc4).1 <| ?_
      refine Runs.iloadN d17_14 rfl <| Runs.aloadN d17_15 rfl <| Runs.getA d17_16 fA_8 w27 (by decide) <| Runs.iloadN d17_19 rfl <| ?_
      refine chk_el hf fun hi5 hf => ?_
      refine Runs.ialoadA d17_20 fA_8 (by decide) hi5 <| ?_
      refine ite_el hf (fun hc6 hf => ?_) (fun hc6 hf => ?_)
      · refine Runs.icN d17_21 (tlt hc6).2.1 <| ?_
        refine Runs.iloadN d17_24 rfl <| Runs.bipush d17_25 cb_64 <| ?_
        refine ite_el hf (fun hc7 hf => ?_) (fun hc7 hf => ?_)
        · refine Runs.icY (pc' := 32) d17_27 (tlt hc7).1 (by decide) <| ?_
          refine Runs.aloadN d17_32 rfl <| Runs.getA d17_33 fA_7 w25 (by decide) <| Runs.iloadN d17_36 rfl <| Runs.bipush d17_37 cb_64 <| Runs.imul d17_39 <| Runs.iloadN d17_40 rfl <| Runs.iadd d17_41 <| ?_
          refine chk_el hf fun hi8 hf => ?_
          obtain rfl := Option.some.inj hf
          exact Runs.ialoadA d17_42 fA_7 (by decide) hi8 <| Runs.retI d17_43 rfl ⟨by decide, by decide⟩ ⟨rfl, rfl⟩
        · refine Runs.icN d17_27 (flt hc7).1 <| ?_
          obtain rfl := Option.some.inj hf
          exact Runs.iconst d17_30 ci_m1 <| Runs.retI d17_31 rfl ⟨by decide, by decide⟩ ⟨rfl, rfl⟩
      · refine Runs.icY (pc' := 30) d17_21 (flt hc6).2.1 (by decide) <| ?_
        obtain rfl := Option.some.inj hf
        exact Runs.iconst d17_30 ci_m1 <| Runs.retI d17_31 rfl ⟨by decide, by decide⟩ ⟨rfl, rfl⟩
theorem X_deliveredAt_pay {C : Ctx} {top : Nat} {a : Nat} {H : List (Nat × Nat × Rec)} {ob : Rec} {res : Int32} {i1 : Int32} {i2 : Int32} (hf : X_deliveredAt ob i1 i2 = some res) : Pays C B17 [.ref a, .int i1, .int i2] (top, (a, 9, ob) :: H) (Ans (some (.int res)) (top, (a, 9, ob) :: H)) :=
  Pays.of pnK (Nat.le_of_ble_eq_true rfl) (P := [vr a, vi i1, vi i2]) 0 rfl (X_deliveredAt_p i1 i2 hf)
def X_delivered (ob : Rec) (i1 : Int32) (i2 : Int32) : Option (Int32) :=
  (X_validProc ob i1).bind fun r1 =>
  if r1 = (0 : Int32) then
    some (-1 : Int32)
  else
    (X_validProc ob i2).bind fun r4 =>
    if r4 = (0 : Int32) then
      some (-1 : Int32)
    else
      chk (64 : Int32) ((i1 * (8 : Int32)) + i2) <|
      some (gA ob 2 ((i1 * (8 : Int32)) + i2))
set_option maxRecDepth 65536 in
set_option maxHeartbeats 4000000 in
theorem X_delivered_p {C : Ctx} {top : Nat} {a : Nat} {H : List (Nat × Nat × Rec)} {ob : Rec} {res : Int32} (i1 : Int32) (i2 : Int32) (hf : X_delivered ob i1 i2 = some res) : Runs C B18 0 0 0 [vr a, vi i1, vi i2] [] (top, (a, 9, ob) :: H) (Ans (some (.int res)) (top, (a, 9, ob) :: H)) := by
  delta X_delivered at hf
  refine Runs.aloadN d18_0 rfl <| Runs.iloadN d18_1 rfl <| ?_
  refine bind_el hf fun r1 hg2 hf => ?_
  refine Runs.callP (N := B3) (W := 0) (as := [.int i1]) (S' := []) d18_2 w38 w39 w40 rfl cw3 ar3 rk18_3_0 (by decide) rfl rfl (X_validProc_pay hg2) <| ans1 <| ?_
  refine ite_el hf (fun hc3 hf => ?_) (fun hc3 hf => ?_)
  · refine Runs.ifY (pc' := 16) d18_5 (teq hc3).1 (by decide) <| ?_
    obtain rfl := Option.some.inj hf
    exact Runs.iconst d18_16 ci_m1 <| Runs.retI d18_17 rfl ⟨by decide, by decide⟩ ⟨rfl, rfl⟩
  · refine Runs.ifN d18_5 (feq hc3).1 <| ?_
    refine Runs.aloadN d18_8 rfl <| Runs.iloadN d18_9 rfl <| ?_
    refine bind_el hf fun r4 hg5 hf => ?_
    refine Runs.callP (N := B3) (W := 0) (as := [.int i2]) (S' := []) d18_10 w38 w39 w40 rfl cw3 ar3 rk18_3_0 (by decide) rfl rfl (X_validProc_pay hg5) <| ans1 <| ?_
    refine ite_el hf (fun hc6 hf => ?_) (fun hc6 hf => ?_)
    · refine Runs.ifN d18_13 (teq hc6).2 <| ?_
      obtain rfl := Option.some.inj hf
      exact Runs.iconst d18_16 ci_m1 <| Runs.retI d18_17 rfl ⟨by decide, by decide⟩ ⟨rfl, rfl⟩
    · refine Runs.ifY (pc' := 18) d18_13 (feq hc6).2 (by decide) <| ?_
      refine Runs.aloadN d18_18 rfl <| Runs.getA d18_19 fA_2 w15 (by decide) <| Runs.iloadN d18_22 rfl <| Runs.bipush d18_23 cb_8 <| Runs.imul d18_25 <| Runs.iloadN d18_26 rfl <| Runs.iadd d18_27 <| ?_
      refine chk_el hf fun hi7 hf => ?_
      obtain rfl := Option.some.inj hf
      exact Runs.ialoadA d18_28 fA_2 (by decide) hi7 <| Runs.retI d18_29 rfl ⟨by decide, by decide⟩ ⟨rfl, rfl⟩
theorem X_delivered_pay {C : Ctx} {top : Nat} {a : Nat} {H : List (Nat × Nat × Rec)} {ob : Rec} {res : Int32} {i1 : Int32} {i2 : Int32} (hf : X_delivered ob i1 i2 = some res) : Pays C B18 [.ref a, .int i1, .int i2] (top, (a, 9, ob) :: H) (Ans (some (.int res)) (top, (a, 9, ob) :: H)) :=
  Pays.of pnK (Nat.le_of_ble_eq_true rfl) (P := [vr a, vi i1, vi i2]) 0 rfl (X_delivered_p i1 i2 hf)
def X_known (ob : Rec) (i1 : Int32) (i2 : Int32) (i3 : Int32) : Option (Int32) :=
  (X_validProc ob i1).bind fun r1 =>
  if r1 = (0 : Int32) then
    some (-1 : Int32)
  else
    (X_validProc ob i2).bind fun r4 =>
    if r4 = (0 : Int32) then
      some (-1 : Int32)
    else
      (X_validProc ob i3).bind fun r7 =>
      if r7 = (0 : Int32) then
        some (-1 : Int32)
      else
        (X_knownIndex ob i1 i2 i3).bind fun r10 =>
        chk (512 : Int32) r10 <|
        some (gA ob 6 r10)
set_option maxRecDepth 65536 in
set_option maxHeartbeats 4000000 in
theorem X_known_p {C : Ctx} {top : Nat} {a : Nat} {H : List (Nat × Nat × Rec)} {ob : Rec} {res : Int32} (i1 : Int32) (i2 : Int32) (i3 : Int32) (hf : X_known ob i1 i2 i3 = some res) : Runs C B19 0 0 0 [vr a, vi i1, vi i2, vi i3, vn] [] (top, (a, 9, ob) :: H) (Ans (some (.int res)) (top, (a, 9, ob) :: H)) := by
  delta X_known at hf
  refine Runs.aloadN d19_0 rfl <| Runs.iloadN d19_1 rfl <| ?_
  refine bind_el hf fun r1 hg2 hf => ?_
  refine Runs.callP (N := B3) (W := 0) (as := [.int i1]) (S' := []) d19_2 w38 w39 w40 rfl cw3 ar3 rk19_3_0 (by decide) rfl rfl (X_validProc_pay hg2) <| ans1 <| ?_
  refine ite_el hf (fun hc3 hf => ?_) (fun hc3 hf => ?_)
  · refine Runs.ifY (pc' := 24) d19_5 (teq hc3).1 (by decide) <| ?_
    obtain rfl := Option.some.inj hf
    exact Runs.iconst d19_24 ci_m1 <| Runs.retI d19_25 rfl ⟨by decide, by decide⟩ ⟨rfl, rfl⟩
  · refine Runs.ifN d19_5 (feq hc3).1 <| ?_
    refine Runs.aloadN d19_8 rfl <| Runs.iloadN d19_9 rfl <| ?_
    refine bind_el hf fun r4 hg5 hf => ?_
    refine Runs.callP (N := B3) (W := 0) (as := [.int i2]) (S' := []) d19_10 w38 w39 w40 rfl cw3 ar3 rk19_3_0 (by decide) rfl rfl (X_validProc_pay hg5) <| ans1 <| ?_
    refine ite_el hf (fun hc6 hf => ?_) (fun hc6 hf => ?_)
    · refine Runs.ifY (pc' := 24) d19_13 (teq hc6).1 (by decide) <| ?_
      obtain rfl := Option.some.inj hf
      exact Runs.iconst d19_24 ci_m1 <| Runs.retI d19_25 rfl ⟨by decide, by decide⟩ ⟨rfl, rfl⟩
    · refine Runs.ifN d19_13 (feq hc6).1 <| ?_
      refine Runs.aloadN d19_16 rfl <| Runs.iloadN d19_17 rfl <| ?_
      refine bind_el hf fun r7 hg8 hf => ?_
      refine Runs.callP (N := B3) (W := 0) (as := [.int i3]) (S' := []) d19_18 w38 w39 w40 rfl cw3 ar3 rk19_3_0 (by decide) rfl rfl (X_validProc_pay hg8) <| ans1 <| ?_
      refine ite_el hf (fun hc9 hf => ?_) (fun hc9 hf => ?_)
      · refine Runs.ifN d19_21 (teq hc9).2 <| ?_
        obtain rfl := Option.some.inj hf
        exact Runs.iconst d19_24 ci_m1 <| Runs.retI d19_25 rfl ⟨by decide, by decide⟩ ⟨rfl, rfl⟩
      · refine Runs.ifY (pc' := 26) d19_21 (feq hc9).2 (by decide) <| ?_
        refine Runs.aloadN d19_26 rfl <| Runs.iloadN d19_27 rfl <| Runs.iloadN d19_28 rfl <| Runs.iloadN d19_29 rfl <| ?_
        refine bind_el hf fun r10 hg11 hf => ?_
        refine Runs.callP (N := B7) (W := 0) (as := [.int i1, .int i2, .int i3]) (S' := []) d19_30 w54 w55 w56 rfl cw7 ar7 rk19_7_0 (by decide) rfl rfl (X_knownIndex_pay hg11) <| ans1 <| Runs.istore (P' := [vr a, vi i1, vi i2, vi i3, vi r10]) d19_33 (by decide) rfl <| Runs.aloadN d19_35 rfl <| Runs.getA d19_36 fA_6 w23 (by decide) <| Runs.iload d19_39 rfl <| ?_
        refine chk_el hf fun hi12 hf => ?_
        obtain rfl := Option.some.inj hf
        exact Runs.ialoadA d19_41 fA_6 (by decide) hi12 <| Runs.retI d19_42 rfl ⟨by decide, by decide⟩ ⟨rfl, rfl⟩
theorem X_known_pay {C : Ctx} {top : Nat} {a : Nat} {H : List (Nat × Nat × Rec)} {ob : Rec} {res : Int32} {i1 : Int32} {i2 : Int32} {i3 : Int32} (hf : X_known ob i1 i2 i3 = some res) : Pays C B19 [.ref a, .int i1, .int i2, .int i3] (top, (a, 9, ob) :: H) (Ans (some (.int res)) (top, (a, 9, ob) :: H)) :=
  Pays.of pnK (Nat.le_of_ble_eq_true rfl) (P := [vr a, vi i1, vi i2, vi i3, vn]) 1 rfl (X_known_p i1 i2 i3 hf)
def L_procOk_w57 (NF : Nat) (ob : Rec) (k57 : Int32 → Int32 → Int32 → Int32 → Option (Int32)) (i1 : Int32) (i3 : Int32) (i5 : Int32) (i6 : Int32) : Option (Int32) :=
  if i6 < (3 : Int32) then
    (X_delivered ob i1 i6).bind fun r2 =>
    (X_sent ob i6).bind fun r4 =>
    (X_known ob i1 i1 i6).bind fun r6 =>
    if r2 < (0 : Int32) then
      some (0 : Int32)
    else
      if r4 < r2 then
        some (0 : Int32)
      else
        if r6 = r2 then
          k57 i1 i3 (i5 + r2) (i6 + (1 : Int32))
        else
          some (0 : Int32)
  else
    if i5 = i3 then
      some (1 : Int32)
    else
      some (0 : Int32)
def L_procOk_l57 (NF : Nat) (ob : Rec) : Nat → Int32 → Int32 → Int32 → Int32 → Option (Int32)
  | 0, _, _, _, _ => none
  | n + 1, i1, i3, i5, i6 => L_procOk_w57 NF ob (L_procOk_l57 NF ob n) i1 i3 i5 i6
set_option maxRecDepth 65536 in
set_option maxHeartbeats 4000000 in
theorem L_procOk_w57_p {C : Ctx} {top : Nat} {a : Nat} {H : List (Nat × Nat × Rec)} {ob : Rec} {res : Int32} {NF : Nat} (k57 : Int32 → Int32 → Int32 → Int32 → Option (Int32)) (hk57 : ∀ (i1 : Int32) (i3 : Int32) (i5 : Int32) (i6 : Int32), k57 i1 i3 i5 i6 = some res → Runs C B14 0 0 57 [vr a, vi i1, vn, vi i3, vn, vi i5, vi i6, vn, vn, vn] [] (top, (a, 9, ob) :: H) (Ans (some (.int res)) (top, (a, 9, ob) :: H))) (i1 : Int32) (i3 : Int32) (i5 : Int32) (i6 : Int32) (hf : L_procOk_w57 NF ob k57 i1 i3 i5 i6 = some res) : Runs C B14 0 0 57 [vr a, vi i1, vn, vi i3, vn, vi i5, vi i6, vn, vn, vn] [] (top, (a, 9, ob) :: H) (Ans (some (.int res)) (top, (a, 9, ob) :: H)) := by
  delta L_procOk_w57 at hf
  refine Runs.iload d14_57 rfl <| Runs.iconst d14_59 ci_3 <| ?_
  refine ite_el hf (fun hc1 hf => ?_) (fun hc1 hf => ?_)
  · refine Runs.icN d14_60 (tlt hc1).2.1 <| ?_
    refine Runs.aloadN d14_63 rfl <| Runs.iloadN d14_64 rfl <| Runs.iload d14_65 rfl <| ?_
    refine bind_el hf fun r2 hg3 hf => ?_
    refine Runs.callV (N := B18) (W := 0) (as := [.int i1, .int i6]) (S' := []) d14_67 w103 w104 w105 w106 cw18 ar18 rk14_18_0 (by decide) rfl rfl (X_delivered_pay hg3) <| ans1 <| Runs.istore (P' := [vr a, vi i1, vn, vi i3, vn, vi i5, vi i6, vi r2, vn, vn]) d14_70 (by decide) rfl <| Runs.aloadN d14_72 rfl <| Runs.iload d14_73 rfl <| ?_
    refine bind_el hf fun r4 hg5 hf => ?_
    refine Runs.callV (N := B15) (W := 0) (as := [.int i6]) (S' := []) d14_75 w88 w89 w90 w91 cw15 ar15 rk14_15_0 (by decide) rfl rfl (X_sent_pay hg5) <| ans1 <| Runs.istore (P' := [vr a, vi i1, vn, vi i3, vn, vi i5, vi i6, vi r2, vi r4, vn]) d14_78 (by decide) rfl <| Runs.aloadN d14_80 rfl <| Runs.iloadN d14_81 rfl <| Runs.iloadN d14_82 rfl <| Runs.iload d14_83 rfl <| ?_
    refine bind_el hf fun r6 hg7 hf => ?_
    refine Runs.callV (N := B19) (W := 0) (as := [.int i1, .int i1, .int i6]) (S' := []) d14_85 w108 w109 w110 w111 cw19 ar19 rk14_19_0 (by decide) rfl rfl (X_known_pay hg7) <| ans1 <| Runs.istore (P' := [vr a, vi i1, vn, vi i3, vn, vi i5, vi i6, vi r2, vi r4, vi r6]) d14_88 (by decide) rfl <| Runs.iload d14_90 rfl <| ?_
    refine ite_el hf (fun hc8 hf => ?_) (fun hc8 hf => ?_)
    · refine Runs.ifY (pc' := 109) d14_92 (tlt hc8).1 (by decide) <| ?_
      obtain rfl := Option.some.inj hf
      exact Runs.iconst d14_109 ci_0 <| Runs.retZ (y := (0 : Int32)) d14_110 rfl ⟨by decide, by decide⟩ rfl ⟨rfl, rfl⟩
    · refine Runs.ifN d14_92 (flt hc8).1 <| ?_
      refine Runs.iload d14_95 rfl <| Runs.iload d14_97 rfl <| ?_
      refine ite_el hf (fun hc9 hf => ?_) (fun hc9 hf => ?_)
      · refine Runs.icY (pc' := 109) d14_99 (tlt hc9).2.2.1 (by decide) <| ?_
        obtain rfl := Option.some.inj hf
        exact Runs.iconst d14_109 ci_0 <| Runs.retZ (y := (0 : Int32)) d14_110 rfl ⟨by decide, by decide⟩ rfl ⟨rfl, rfl⟩
      · refine Runs.icN d14_99 (flt hc9).2.2.1 <| ?_
        refine Runs.iload d14_102 rfl <| Runs.iload d14_104 rfl <| ?_
        refine ite_el hf (fun hc10 hf => ?_) (fun hc10 hf => ?_)
        · refine Runs.icY (pc' := 111) d14_106 (teq hc10).1 (by decide) <| ?_
          exact Runs.iload d14_111 rfl <| Runs.iload d14_113 rfl <| Runs.iadd d14_115 <| Runs.istore (P' := [vr a, vi i1, vn, vi i3, vn, vi (i5 + r2), vi i6, vi r2, vi r4, vi r6]) d14_116 (by decide) rfl <| Runs.iinc (P' := [vr a, vi i1, vn, vi i3, vn, vi (i5 + r2), vi (i6 + (1 : Int32)), vi r2, vi r4, vi r6]) d14_118 ci_1 rfl (by decide) rfl <| Runs.goto (pc' := 57) d14_121 (by decide) <| Runs.forget [true, true, false, true, false, true, true, false, false, false] rfl <| hk57 i1 i3 (i5 + r2) (i6 + (1 : Int32)) hf
        · refine Runs.icN d14_106 (feq hc10).1 <| ?_
          obtain rfl := Option.some.inj hf
          exact Runs.iconst d14_109 ci_0 <| Runs.retZ (y := (0 : Int32)) d14_110 rfl ⟨by decide, by decide⟩ rfl ⟨rfl, rfl⟩
  · refine Runs.icY (pc' := 124) d14_60 (flt hc1).2.1 (by decide) <| ?_
    refine Runs.iload d14_124 rfl <| Runs.iloadN d14_126 rfl <| ?_
    refine ite_el hf (fun hc11 hf => ?_) (fun hc11 hf => ?_)
    · refine Runs.icN d14_127 (teq hc11).2 <| ?_
      obtain rfl := Option.some.inj hf
      exact Runs.iconst d14_130 ci_1 <| Runs.goto (pc' := 135) d14_131 (by decide) <| Runs.retZ (y := (1 : Int32)) d14_135 rfl ⟨by decide, by decide⟩ rfl ⟨rfl, rfl⟩
    · refine Runs.icY (pc' := 134) d14_127 (feq hc11).2 (by decide) <| ?_
      obtain rfl := Option.some.inj hf
      exact Runs.iconst d14_134 ci_0 <| Runs.retZ (y := (0 : Int32)) d14_135 rfl ⟨by decide, by decide⟩ rfl ⟨rfl, rfl⟩
theorem L_procOk_l57_p {C : Ctx} {top : Nat} {a : Nat} {H : List (Nat × Nat × Rec)} {ob : Rec} {res : Int32} {NF : Nat} (n : Nat) (i1 : Int32) (i3 : Int32) (i5 : Int32) (i6 : Int32) (hf : L_procOk_l57 NF ob n i1 i3 i5 i6 = some res) : Runs C B14 0 0 57 [vr a, vi i1, vn, vi i3, vn, vi i5, vi i6, vn, vn, vn] [] (top, (a, 9, ob) :: H) (Ans (some (.int res)) (top, (a, 9, ob) :: H)) := by
  induction n generalizing i1 i3 i5 i6 with
  | zero => cases (show (none : Option (Int32)) = some res from hf)
  | succ n ih => exact L_procOk_w57_p (L_procOk_l57 NF ob n) (fun i1 i3 i5 i6 h => ih _ _ _ _ h) i1 i3 i5 i6 hf
def L_procOk (NF : Nat) (ob : Rec) (i1 : Int32) (i2 : Int32) (i3 : Int32) (i4 : Int32) : Option (Int32) :=
  (X_sent ob i1).bind fun r12 =>
  if r12 = i2 then
    (X_isCrashed ob i1).bind fun r15 =>
    if r15 = i4 then
      (X_deliveredAt ob i1 i3).bind fun r18 =>
      if r18 = (-1 : Int32) then
        if (0 : Int32) < i3 then
          (X_deliveredAt ob i1 (i3 - (1 : Int32))).bind fun r22 =>
          if r22 < (1 : Int32) then
            some (0 : Int32)
          else
            L_procOk_l57 NF ob NF i1 i3 (0 : Int32) (0 : Int32)
        else
          L_procOk_l57 NF ob NF i1 i3 (0 : Int32) (0 : Int32)
      else
        some (0 : Int32)
    else
      some (0 : Int32)
  else
    some (0 : Int32)
set_option maxRecDepth 65536 in
set_option maxHeartbeats 4000000 in
theorem L_procOk_p {C : Ctx} {top : Nat} {a : Nat} {H : List (Nat × Nat × Rec)} {ob : Rec} {res : Int32} {NF : Nat} (i1 : Int32) (i2 : Int32) (i3 : Int32) (i4 : Int32) (hf : L_procOk NF ob i1 i2 i3 i4 = some res) : Runs C B14 0 0 0 [vr a, vi i1, vi i2, vi i3, vi i4, vn, vn, vn, vn, vn] [] (top, (a, 9, ob) :: H) (Ans (some (.int res)) (top, (a, 9, ob) :: H)) := by
  delta L_procOk at hf
  refine Runs.aloadN d14_0 rfl <| Runs.iloadN d14_1 rfl <| ?_
  refine bind_el hf fun r12 hg13 hf => ?_
  refine Runs.callV (N := B15) (W := 0) (as := [.int i1]) (S' := []) d14_2 w88 w89 w90 w91 cw15 ar15 rk14_15_0 (by decide) rfl rfl (X_sent_pay hg13) <| ans1 <| Runs.iloadN d14_5 rfl <| ?_
  refine ite_el hf (fun hc14 hf => ?_) (fun hc14 hf => ?_)
  · refine Runs.icN d14_6 (teq hc14).2 <| ?_
    refine Runs.aloadN d14_9 rfl <| Runs.iloadN d14_10 rfl <| ?_
    refine bind_el hf fun r15 hg16 hf => ?_
    refine Runs.callV (N := B16) (W := 0) (as := [.int i1]) (S' := []) d14_11 w93 w94 w95 w96 cw16 ar16 rk14_16_0 (by decide) rfl rfl (X_isCrashed_pay hg16) <| ans1 <| Runs.iload d14_14 rfl <| ?_
    refine ite_el hf (fun hc17 hf => ?_) (fun hc17 hf => ?_)
    · refine Runs.icY (pc' := 21) d14_16 (teq hc17).1 (by decide) <| ?_
      refine Runs.aloadN d14_21 rfl <| Runs.iloadN d14_22 rfl <| Runs.iloadN d14_23 rfl <| ?_
      refine bind_el hf fun r18 hg19 hf => ?_
      refine Runs.callV (N := B17) (W := 0) (as := [.int i1, .int i3]) (S' := []) d14_24 w98 w99 w100 w101 cw17 ar17 rk14_17_0 (by decide) rfl rfl (X_deliveredAt_pay hg19) <| ans1 <| Runs.iconst d14_27 ci_m1 <| ?_
      refine ite_el hf (fun hc20 hf => ?_) (fun hc20 hf => ?_)
      · refine Runs.icY (pc' := 33) d14_28 (teq hc20).1 (by decide) <| ?_
        refine Runs.iloadN d14_33 rfl <| ?_
        refine ite_el hf (fun hc21 hf => ?_) (fun hc21 hf => ?_)
        · refine Runs.ifN d14_34 (tlt hc21).2.2.2 <| ?_
          refine Runs.aloadN d14_37 rfl <| Runs.iloadN d14_38 rfl <| Runs.iloadN d14_39 rfl <| Runs.iconst d14_40 ci_1 <| Runs.isub d14_41 <| ?_
          refine bind_el hf fun r22 hg23 hf => ?_
          refine Runs.callV (N := B17) (W := 0) (as := [.int i1, .int (i3 - (1 : Int32))]) (S' := []) d14_42 w98 w99 w100 w101 cw17 ar17 rk14_17_0 (by decide) rfl rfl (X_deliveredAt_pay hg23) <| ans1 <| Runs.iconst d14_45 ci_1 <| ?_
          refine ite_el hf (fun hc24 hf => ?_) (fun hc24 hf => ?_)
          · refine Runs.icN d14_46 (tlt hc24).2.1 <| ?_
            obtain rfl := Option.some.inj hf
            exact Runs.iconst d14_49 ci_0 <| Runs.retZ (y := (0 : Int32)) d14_50 rfl ⟨by decide, by decide⟩ rfl ⟨rfl, rfl⟩
          · refine Runs.icY (pc' := 51) d14_46 (flt hc24).2.1 (by decide) <| ?_
            exact Runs.iconst d14_51 ci_0 <| Runs.istore (P' := [vr a, vi i1, vi i2, vi i3, vi i4, vi (0 : Int32), vn, vn, vn, vn]) d14_52 (by decide) rfl <| Runs.iconst d14_54 ci_0 <| Runs.istore (P' := [vr a, vi i1, vi i2, vi i3, vi i4, vi (0 : Int32), vi (0 : Int32), vn, vn, vn]) d14_55 (by decide) rfl <| Runs.forget [true, true, false, true, false, true, true, false, false, false] rfl <| L_procOk_l57_p NF i1 i3 (0 : Int32) (0 : Int32) hf
        · refine Runs.ifY (pc' := 51) d14_34 (flt hc21).2.2.2 (by decide) <| ?_
          exact Runs.iconst d14_51 ci_0 <| Runs.istore (P' := [vr a, vi i1, vi i2, vi i3, vi i4, vi (0 : Int32), vn, vn, vn, vn]) d14_52 (by decide) rfl <| Runs.iconst d14_54 ci_0 <| Runs.istore (P' := [vr a, vi i1, vi i2, vi i3, vi i4, vi (0 : Int32), vi (0 : Int32), vn, vn, vn]) d14_55 (by decide) rfl <| Runs.forget [true, true, false, true, false, true, true, false, false, false] rfl <| L_procOk_l57_p NF i1 i3 (0 : Int32) (0 : Int32) hf
      · refine Runs.icN d14_28 (feq hc20).1 <| ?_
        obtain rfl := Option.some.inj hf
        exact Runs.iconst d14_31 ci_0 <| Runs.retZ (y := (0 : Int32)) d14_32 rfl ⟨by decide, by decide⟩ rfl ⟨rfl, rfl⟩
    · refine Runs.icN d14_16 (feq hc17).1 <| ?_
      obtain rfl := Option.some.inj hf
      exact Runs.iconst d14_19 ci_0 <| Runs.retZ (y := (0 : Int32)) d14_20 rfl ⟨by decide, by decide⟩ rfl ⟨rfl, rfl⟩
  · refine Runs.icY (pc' := 19) d14_6 (feq hc14).2 (by decide) <| ?_
    obtain rfl := Option.some.inj hf
    exact Runs.iconst d14_19 ci_0 <| Runs.retZ (y := (0 : Int32)) d14_20 rfl ⟨by decide, by decide⟩ rfl ⟨rfl, rfl⟩
theorem L_procOk_pay {C : Ctx} {top : Nat} {a : Nat} {H : List (Nat × Nat × Rec)} {ob : Rec} {res : Int32} {NF : Nat} {i1 : Int32} {i2 : Int32} {i3 : Int32} {i4 : Int32} (hf : L_procOk NF ob i1 i2 i3 i4 = some res) : Pays C B14 [.ref a, .int i1, .int i2, .int i3, .int i4] (top, (a, 9, ob) :: H) (Ans (some (.int res)) (top, (a, 9, ob) :: H)) :=
  Pays.of pnL (Nat.le_of_ble_eq_true rfl) (P := [vr a, vi i1, vi i2, vi i3, vi i4, vn, vn, vn, vn, vn]) 5 rfl (L_procOk_p i1 i2 i3 i4 hf)
def L_law_b456 (NF : Nat) (z : Int32) (f : Int32 → Int32) (k27 : Rec → Int64 → Int64 → Int32 → Int32 → Int32 → Int32 → Option (Int32)) (k399 : Rec → Int64 → Int64 → Int32 → Int32 → Int32 → Int32 → Int32 → Option (Int32)) (ob : Rec) (l2 : Int64) (l4 : Int64) (i6 : Int32) (i7 : Int32) (i8 : Int32) (i9 : Int32) (i16 : Int32) (t1 : Int32) (t2 : Int32) (t3 : Int32) (t4 : Int32) : Option (Int32) :=
  (L_procOk NF ob t1 t2 t3 t4).bind fun r56 =>
  if r56 = (0 : Int32) then
    some (0 : Int32)
  else
    k399 ob l2 l4 i6 i7 i8 i9 (i16 + (1 : Int32))
set_option maxRecDepth 65536 in
set_option maxHeartbeats 4000000 in
theorem L_law_b456_p {C : Ctx} {sa : Nat} {z : Int32} {f : Int32 → Int32} (hs : ScrF C sa z f) {res : Int32} {NF : Nat} (k27 : Rec → Int64 → Int64 → Int32 → Int32 → Int32 → Int32 → Option (Int32)) (hk27 : ∀ (ob : Rec) (l2 : Int64) (l4 : Int64) (i6 : Int32) (i7 : Int32) (i8 : Int32) (i9 : Int32), k27 ob l2 l4 i6 i7 i8 i9 = some res → Runs C B0 10 2659 27 [vr sa, vr C.2.2.1, vl l2, v2, vl l4, v2, vi i6, vi i7, vi i8, vi i9, vn, vn, vn, vn, vn, vn, vn, vn, vn] [] (C.2.2.1 + 1 + 9, (C.2.2.1, 9, ob) :: []) (fun v _ => v = (some (.int res)))) (k399 : Rec → Int64 → Int64 → Int32 → Int32 → Int32 → Int32 → Int32 → Option (Int32)) (hk399 : ∀ (ob : Rec) (l2 : Int64) (l4 : Int64) (i6 : Int32) (i7 : Int32) (i8 : Int32) (i9 : Int32) (i16 : Int32), k399 ob l2 l4 i6 i7 i8 i9 i16 = some res → Runs C B0 10 2659 399 [vr sa, vr C.2.2.1, vl l2, v2, vl l4, v2, vi i6, vi i7, vi i8, vi i9, vn, vn, vn, vn, vn, vn, vi i16, vn, vn] [] (C.2.2.1 + 1 + 9, (C.2.2.1, 9, ob) :: []) (fun v _ => v = (some (.int res)))) (ob : Rec) (l2 : Int64) (l4 : Int64) (i6 : Int32) (i7 : Int32) (i8 : Int32) (i9 : Int32) (i16 : Int32) (t1 : Int32) (t2 : Int32) (t3 : Int32) (t4 : Int32) (hf : L_law_b456 NF z f k27 k399 ob l2 l4 i6 i7 i8 i9 i16 t1 t2 t3 t4 = some res) : Runs C B0 10 2659 456 [vr sa, vr C.2.2.1, vl l2, v2, vl l4, v2, vi i6, vi i7, vi i8, vi i9, vn, vn, vn, vn, vn, vn, vi i16, vn, vn] [.int t4, .int t3, .int t2, .int t1, .ref C.2.2.1] (C.2.2.1 + 1 + 9, (C.2.2.1, 9, ob) :: []) (fun v _ => v = (some (.int res))) := by
  delta L_law_b456 at hf
  refine bind_el hf fun r56 hg57 hf => ?_
  refine Runs.callS (N := B14) (W := 0) (as := [.ref C.2.2.1, .int t1, .int t2, .int t3, .int t4]) (S' := []) d0_456 w85 w86 cw14 ar14 rk0_14_0 (by decide) rfl rfl (L_procOk_pay hg57) <| ans1 <| ?_
  refine ite_el hf (fun hc58 hf => ?_) (fun hc58 hf => ?_)
  · refine Runs.ifN d0_459 (teq hc58).2 <| ?_
    obtain rfl := Option.some.inj hf
    exact Runs.iconst d0_462 ci_0 <| Runs.retZ (y := (0 : Int32)) d0_463 rfl ⟨by decide, by decide⟩ rfl rfl
  · refine Runs.ifY (pc' := 464) d0_459 (feq hc58).2 (by decide) <| ?_
    exact Runs.iinc (P' := [vr sa, vr C.2.2.1, vl l2, v2, vl l4, v2, vi i6, vi i7, vi i8, vi i9, vn, vn, vn, vn, vn, vn, vi (i16 + (1 : Int32)), vn, vn]) d0_464 ci_1 rfl (by decide) rfl <| Runs.goto (pc' := 399) d0_467 (by decide) <| hk399 ob l2 l4 i6 i7 i8 i9 (i16 + (1 : Int32)) hf
def L_law_w399 (NF : Nat) (z : Int32) (f : Int32 → Int32) (k27 : Rec → Int64 → Int64 → Int32 → Int32 → Int32 → Int32 → Option (Int32)) (k399 : Rec → Int64 → Int64 → Int32 → Int32 → Int32 → Int32 → Int32 → Option (Int32)) (ob : Rec) (l2 : Int64) (l4 : Int64) (i6 : Int32) (i7 : Int32) (i8 : Int32) (i9 : Int32) (i16 : Int32) : Option (Int32) :=
  if i16 < (3 : Int32) then
    if ((i8 >>> (i16 &&& 31)) &&& (1 : Int32)) = (1 : Int32) then
      L_law_b456 NF z f k27 k399 ob l2 l4 i6 i7 i8 i9 i16 i16 ((l2 >>> (((4 : Int32) * i16) &&& 0x3f).toInt64) &&& (15 : Int64)).toInt32 ((l4 >>> (((8 : Int32) * i16) &&& 0x3f).toInt64) &&& (255 : Int64)).toInt32 (1 : Int32)
    else
      L_law_b456 NF z f k27 k399 ob l2 l4 i6 i7 i8 i9 i16 i16 ((l2 >>> (((4 : Int32) * i16) &&& 0x3f).toInt64) &&& (15 : Int64)).toInt32 ((l4 >>> (((8 : Int32) * i16) &&& 0x3f).toInt64) &&& (255 : Int64)).toInt32 (0 : Int32)
  else
    k27 ob l2 l4 i6 i7 i8 (i9 + (4 : Int32))
def L_law_l399 (NF : Nat) (z : Int32) (f : Int32 → Int32) (k27 : Rec → Int64 → Int64 → Int32 → Int32 → Int32 → Int32 → Option (Int32)) : Nat → Rec → Int64 → Int64 → Int32 → Int32 → Int32 → Int32 → Int32 → Option (Int32)
  | 0, _, _, _, _, _, _, _, _ => none
  | n + 1, ob, l2, l4, i6, i7, i8, i9, i16 => L_law_w399 NF z f k27 (L_law_l399 NF z f k27 n) ob l2 l4 i6 i7 i8 i9 i16
set_option maxRecDepth 65536 in
set_option maxHeartbeats 4000000 in
theorem L_law_w399_p {C : Ctx} {sa : Nat} {z : Int32} {f : Int32 → Int32} (hs : ScrF C sa z f) {res : Int32} {NF : Nat} (k27 : Rec → Int64 → Int64 → Int32 → Int32 → Int32 → Int32 → Option (Int32)) (hk27 : ∀ (ob : Rec) (l2 : Int64) (l4 : Int64) (i6 : Int32) (i7 : Int32) (i8 : Int32) (i9 : Int32), k27 ob l2 l4 i6 i7 i8 i9 = some res → Runs C B0 10 2659 27 [vr sa, vr C.2.2.1, vl l2, v2, vl l4, v2, vi i6, vi i7, vi i8, vi i9, vn, vn, vn, vn, vn, vn, vn, vn, vn] [] (C.2.2.1 + 1 + 9, (C.2.2.1, 9, ob) :: []) (fun v _ => v = (some (.int res)))) (k399 : Rec → Int64 → Int64 → Int32 → Int32 → Int32 → Int32 → Int32 → Option (Int32)) (hk399 : ∀ (ob : Rec) (l2 : Int64) (l4 : Int64) (i6 : Int32) (i7 : Int32) (i8 : Int32) (i9 : Int32) (i16 : Int32), k399 ob l2 l4 i6 i7 i8 i9 i16 = some res → Runs C B0 10 2659 399 [vr sa, vr C.2.2.1, vl l2, v2, vl l4, v2, vi i6, vi i7, vi i8, vi i9, vn, vn, vn, vn, vn, vn, vi i16, vn, vn] [] (C.2.2.1 + 1 + 9, (C.2.2.1, 9, ob) :: []) (fun v _ => v = (some (.int res)))) (ob : Rec) (l2 : Int64) (l4 : Int64) (i6 : Int32) (i7 : Int32) (i8 : Int32) (i9 : Int32) (i16 : Int32) (hf : L_law_w399 NF z f k27 k399 ob l2 l4 i6 i7 i8 i9 i16 = some res) : Runs C B0 10 2659 399 [vr sa, vr C.2.2.1, vl l2, v2, vl l4, v2, vi i6, vi i7, vi i8, vi i9, vn, vn, vn, vn, vn, vn, vi i16, vn, vn] [] (C.2.2.1 + 1 + 9, (C.2.2.1, 9, ob) :: []) (fun v _ => v = (some (.int res))) := by
  delta L_law_w399 at hf
  refine Runs.iload d0_399 rfl <| Runs.iconst d0_401 ci_3 <| ?_
  refine ite_el hf (fun hc54 hf => ?_) (fun hc54 hf => ?_)
  · refine Runs.icN d0_402 (tlt hc54).2.1 <| ?_
    refine Runs.lloadN d0_405 rfl <| Runs.iconst d0_406 ci_4 <| Runs.iload d0_407 rfl <| Runs.imul d0_409 <| Runs.lshr d0_410 <| Runs.ldc2 d0_411 w58 <| Runs.land d0_414 <| Runs.l2i d0_415 <| Runs.istore (P' := [vr sa, vr C.2.2.1, vl l2, v2, vl l4, v2, vi i6, vi i7, vi i8, vi i9, vn, vn, vn, vn, vn, vn, vi i16, vi ((l2 >>> (((4 : Int32) * i16) &&& 0x3f).toInt64) &&& (15 : Int64)).toInt32, vn]) d0_416 (by decide) rfl <| Runs.lload d0_418 rfl <| Runs.bipush d0_420 cb_8 <| Runs.iload d0_422 rfl <| ?_
    refine Runs.imul d0_424 <| Runs.lshr d0_425 <| Runs.ldc2 d0_426 w84 <| Runs.land d0_429 <| Runs.l2i d0_430 <| Runs.istore (P' := [vr sa, vr C.2.2.1, vl l2, v2, vl l4, v2, vi i6, vi i7, vi i8, vi i9, vn, vn, vn, vn, vn, vn, vi i16, vi ((l2 >>> (((4 : Int32) * i16) &&& 0x3f).toInt64) &&& (15 : Int64)).toInt32, vi ((l4 >>> (((8 : Int32) * i16) &&& 0x3f).toInt64) &&& (255 : Int64)).toInt32]) d0_431 (by decide) rfl <| Runs.aloadN d0_433 rfl <| Runs.iload d0_434 rfl <| Runs.iload d0_436 rfl <| Runs.iload d0_438 rfl <| Runs.iload d0_440 rfl <| Runs.iload d0_442 rfl <| ?_
    refine Runs.ishr d0_444 <| Runs.iconst d0_445 ci_1 <| Runs.iand d0_446 <| Runs.iconst d0_447 ci_1 <| ?_
    refine ite_el hf (fun hc55 hf => ?_) (fun hc55 hf => ?_)
    · refine Runs.icN d0_448 (teq hc55).2 <| ?_
      exact Runs.iconst d0_451 ci_1 <| Runs.goto (pc' := 456) d0_452 (by decide) <| Runs.forget [true, true, true, true, true, true, true, true, true, true, false, false, false, false, false, false, true, false, false] rfl <| L_law_b456_p hs k27 hk27 k399 hk399 ob l2 l4 i6 i7 i8 i9 i16 i16 ((l2 >>> (((4 : Int32) * i16) &&& 0x3f).toInt64) &&& (15 : Int64)).toInt32 ((l4 >>> (((8 : Int32) * i16) &&& 0x3f).toInt64) &&& (255 : Int64)).toInt32 (1 : Int32) hf
    · refine Runs.icY (pc' := 455) d0_448 (feq hc55).2 (by decide) <| ?_
      exact Runs.iconst d0_455 ci_0 <| Runs.forget [true, true, true, true, true, true, true, true, true, true, false, false, false, false, false, false, true, false, false] rfl <| L_law_b456_p hs k27 hk27 k399 hk399 ob l2 l4 i6 i7 i8 i9 i16 i16 ((l2 >>> (((4 : Int32) * i16) &&& 0x3f).toInt64) &&& (15 : Int64)).toInt32 ((l4 >>> (((8 : Int32) * i16) &&& 0x3f).toInt64) &&& (255 : Int64)).toInt32 (0 : Int32) hf
  · refine Runs.icY (pc' := 470) d0_402 (flt hc54).2.1 (by decide) <| ?_
    exact Runs.iinc (P' := [vr sa, vr C.2.2.1, vl l2, v2, vl l4, v2, vi i6, vi i7, vi i8, vi (i9 + (4 : Int32)), vn, vn, vn, vn, vn, vn, vi i16, vn, vn]) d0_470 ci_4 rfl (by decide) rfl <| Runs.goto (pc' := 27) d0_473 (by decide) <| Runs.forget [true, true, true, true, true, true, true, true, true, true, false, false, false, false, false, false, false, false, false] rfl <| hk27 ob l2 l4 i6 i7 i8 (i9 + (4 : Int32)) hf
theorem L_law_l399_p {C : Ctx} {sa : Nat} {z : Int32} {f : Int32 → Int32} (hs : ScrF C sa z f) {res : Int32} {NF : Nat} (k27 : Rec → Int64 → Int64 → Int32 → Int32 → Int32 → Int32 → Option (Int32)) (hk27 : ∀ (ob : Rec) (l2 : Int64) (l4 : Int64) (i6 : Int32) (i7 : Int32) (i8 : Int32) (i9 : Int32), k27 ob l2 l4 i6 i7 i8 i9 = some res → Runs C B0 10 2659 27 [vr sa, vr C.2.2.1, vl l2, v2, vl l4, v2, vi i6, vi i7, vi i8, vi i9, vn, vn, vn, vn, vn, vn, vn, vn, vn] [] (C.2.2.1 + 1 + 9, (C.2.2.1, 9, ob) :: []) (fun v _ => v = (some (.int res)))) (n : Nat) (ob : Rec) (l2 : Int64) (l4 : Int64) (i6 : Int32) (i7 : Int32) (i8 : Int32) (i9 : Int32) (i16 : Int32) (hf : L_law_l399 NF z f k27 n ob l2 l4 i6 i7 i8 i9 i16 = some res) : Runs C B0 10 2659 399 [vr sa, vr C.2.2.1, vl l2, v2, vl l4, v2, vi i6, vi i7, vi i8, vi i9, vn, vn, vn, vn, vn, vn, vi i16, vn, vn] [] (C.2.2.1 + 1 + 9, (C.2.2.1, 9, ob) :: []) (fun v _ => v = (some (.int res))) := by
  induction n generalizing ob l2 l4 i6 i7 i8 i9 i16 with
  | zero => cases (show (none : Option (Int32)) = some res from hf)
  | succ n ih => exact L_law_w399_p hs k27 hk27 (L_law_l399 NF z f k27 n) (fun ob l2 l4 i6 i7 i8 i9 i16 h => ih _ _ _ _ _ _ _ _ h) ob l2 l4 i6 i7 i8 i9 i16 hf
def L_law_b367 (NF : Nat) (z : Int32) (f : Int32 → Int32) (k27 : Rec → Int64 → Int64 → Int32 → Int32 → Int32 → Int32 → Option (Int32)) (ob : Rec) (l2 : Int64) (l4 : Int64) (i6 : Int32) (i7 : Int32) (i8 : Int32) (i9 : Int32) : Option (Int32) :=
  if i8 = (7 : Int32) then
    some (0 : Int32)
  else
    (L_copySum NF ob).bind fun r48 =>
    if r48 = i6 then
      (L_prunedCount NF ob).bind fun r51 =>
      if r51 = i7 then
        L_law_l399 NF z f k27 NF ob l2 l4 i6 i7 i8 i9 (0 : Int32)
      else
        some (0 : Int32)
    else
      some (0 : Int32)
set_option maxRecDepth 65536 in
set_option maxHeartbeats 4000000 in
theorem L_law_b367_p {C : Ctx} {sa : Nat} {z : Int32} {f : Int32 → Int32} (hs : ScrF C sa z f) {res : Int32} {NF : Nat} (k27 : Rec → Int64 → Int64 → Int32 → Int32 → Int32 → Int32 → Option (Int32)) (hk27 : ∀ (ob : Rec) (l2 : Int64) (l4 : Int64) (i6 : Int32) (i7 : Int32) (i8 : Int32) (i9 : Int32), k27 ob l2 l4 i6 i7 i8 i9 = some res → Runs C B0 10 2659 27 [vr sa, vr C.2.2.1, vl l2, v2, vl l4, v2, vi i6, vi i7, vi i8, vi i9, vn, vn, vn, vn, vn, vn, vn, vn, vn] [] (C.2.2.1 + 1 + 9, (C.2.2.1, 9, ob) :: []) (fun v _ => v = (some (.int res)))) (ob : Rec) (l2 : Int64) (l4 : Int64) (i6 : Int32) (i7 : Int32) (i8 : Int32) (i9 : Int32) (hf : L_law_b367 NF z f k27 ob l2 l4 i6 i7 i8 i9 = some res) : Runs C B0 10 2659 367 [vr sa, vr C.2.2.1, vl l2, v2, vl l4, v2, vi i6, vi i7, vi i8, vi i9, vn, vn, vn, vn, vn, vn, vn, vn, vn] [] (C.2.2.1 + 1 + 9, (C.2.2.1, 9, ob) :: []) (fun v _ => v = (some (.int res))) := by
  delta L_law_b367 at hf
  refine Runs.iload d0_367 rfl <| Runs.bipush d0_369 cb_7 <| ?_
  refine ite_el hf (fun hc47 hf => ?_) (fun hc47 hf => ?_)
  · refine Runs.icN d0_371 (teq hc47).2 <| ?_
    obtain rfl := Option.some.inj hf
    exact Runs.iconst d0_374 ci_0 <| Runs.retZ (y := (0 : Int32)) d0_375 rfl ⟨by decide, by decide⟩ rfl rfl
  · refine Runs.icY (pc' := 376) d0_371 (feq hc47).2 (by decide) <| ?_
    refine Runs.aloadN d0_376 rfl <| ?_
    refine bind_el hf fun r48 hg49 hf => ?_
    refine Runs.callS (N := B8) (W := 0) (as := [.ref C.2.2.1]) (S' := []) d0_377 w59 w60 cw8 ar8 rk0_8_0 (by decide) rfl rfl (L_copySum_pay hg49) <| ans1 <| Runs.iload d0_380 rfl <| ?_
    refine ite_el hf (fun hc50 hf => ?_) (fun hc50 hf => ?_)
    · refine Runs.icN d0_382 (teq hc50).2 <| ?_
      refine Runs.aloadN d0_385 rfl <| ?_
      refine bind_el hf fun r51 hg52 hf => ?_
      refine Runs.callS (N := B12) (W := 0) (as := [.ref C.2.2.1]) (S' := []) d0_386 w76 w77 cw12 ar12 rk0_12_0 (by decide) rfl rfl (L_prunedCount_pay hg52) <| ans1 <| Runs.iload d0_389 rfl <| ?_
      refine ite_el hf (fun hc53 hf => ?_) (fun hc53 hf => ?_)
      · refine Runs.icY (pc' := 396) d0_391 (teq hc53).1 (by decide) <| ?_
        exact Runs.iconst d0_396 ci_0 <| Runs.istore (P' := [vr sa, vr C.2.2.1, vl l2, v2, vl l4, v2, vi i6, vi i7, vi i8, vi i9, vn, vn, vn, vn, vn, vn, vi (0 : Int32), vn, vn]) d0_397 (by decide) rfl <| L_law_l399_p hs k27 hk27 NF ob l2 l4 i6 i7 i8 i9 (0 : Int32) hf
      · refine Runs.icN d0_391 (feq hc53).1 <| ?_
        obtain rfl := Option.some.inj hf
        exact Runs.iconst d0_394 ci_0 <| Runs.retZ (y := (0 : Int32)) d0_395 rfl ⟨by decide, by decide⟩ rfl rfl
    · refine Runs.icY (pc' := 394) d0_382 (feq hc50).2 (by decide) <| ?_
      obtain rfl := Option.some.inj hf
      exact Runs.iconst d0_394 ci_0 <| Runs.retZ (y := (0 : Int32)) d0_395 rfl ⟨by decide, by decide⟩ rfl rfl
def L_law_b170 (NF : Nat) (z : Int32) (f : Int32 → Int32) (k27 : Rec → Int64 → Int64 → Int32 → Int32 → Int32 → Int32 → Option (Int32)) (ob : Rec) (l2 : Int64) (l4 : Int64) (i6 : Int32) (i7 : Int32) (i8 : Int32) (i9 : Int32) (i12 : Int32) (i13 : Int32) (i14 : Int32) : Option (Int32) :=
  bind2 (X_receive NF ob i14 i12 i13) fun r42 q43 =>
  if r42 < (0 : Int32) then
    if r42 = (-5 : Int32) then
      L_law_b367 NF z f k27 q43 l2 l4 (i6 + (-1 : Int32)) i7 i8 i9
    else
      L_law_b367 NF z f k27 q43 l2 l4 i6 i7 i8 i9
  else
    L_law_b367 NF z f k27 q43 l2 (l4 + (r42.toInt64 <<< (((8 : Int32) * i14) &&& 0x3f).toInt64)) (i6 + (-1 : Int32)) i7 i8 i9
set_option maxRecDepth 65536 in
set_option maxHeartbeats 4000000 in
theorem L_law_b170_p {C : Ctx} {sa : Nat} {z : Int32} {f : Int32 → Int32} (hs : ScrF C sa z f) {res : Int32} {NF : Nat} (k27 : Rec → Int64 → Int64 → Int32 → Int32 → Int32 → Int32 → Option (Int32)) (hk27 : ∀ (ob : Rec) (l2 : Int64) (l4 : Int64) (i6 : Int32) (i7 : Int32) (i8 : Int32) (i9 : Int32), k27 ob l2 l4 i6 i7 i8 i9 = some res → Runs C B0 10 2659 27 [vr sa, vr C.2.2.1, vl l2, v2, vl l4, v2, vi i6, vi i7, vi i8, vi i9, vn, vn, vn, vn, vn, vn, vn, vn, vn] [] (C.2.2.1 + 1 + 9, (C.2.2.1, 9, ob) :: []) (fun v _ => v = (some (.int res)))) (ob : Rec) (l2 : Int64) (l4 : Int64) (i6 : Int32) (i7 : Int32) (i8 : Int32) (i9 : Int32) (i12 : Int32) (i13 : Int32) (i14 : Int32) (hf : L_law_b170 NF z f k27 ob l2 l4 i6 i7 i8 i9 i12 i13 i14 = some res) : Runs C B0 10 2659 170 [vr sa, vr C.2.2.1, vl l2, v2, vl l4, v2, vi i6, vi i7, vi i8, vi i9, vn, vn, vi i12, vi i13, vi i14, vn, vn, vn, vn] [] (C.2.2.1 + 1 + 9, (C.2.2.1, 9, ob) :: []) (fun v _ => v = (some (.int res))) := by
  delta L_law_b170 at hf
  refine Runs.aloadN d0_170 rfl <| Runs.iload d0_171 rfl <| Runs.iload d0_173 rfl <| Runs.iload d0_175 rfl <| ?_
  refine bind2_el hf fun r42 q43 hg44 hf => ?_
  refine Runs.callV (N := B23) (W := 0) (as := [.int i14, .int i12, .int i13]) (S' := []) d0_177 w127 w128 w129 w130 cw23 ar23 rk0_23_0 (by decide) rfl rfl (X_receive_pay hg44) <| ans1 <| Runs.istore (P' := [vr sa, vr C.2.2.1, vl l2, v2, vl l4, v2, vi i6, vi i7, vi i8, vi i9, vn, vn, vi i12, vi i13, vi i14, vn, vi r42, vn, vn]) d0_180 (by decide) rfl <| Runs.iload d0_182 rfl <| ?_
  refine ite_el hf (fun hc45 hf => ?_) (fun hc45 hf => ?_)
  · refine Runs.ifY (pc' := 207) d0_184 (tlt hc45).1 (by decide) <| ?_
    refine Runs.iload d0_207 rfl <| Runs.bipush d0_209 cb_m5 <| ?_
    refine ite_el hf (fun hc46 hf => ?_) (fun hc46 hf => ?_)
    · refine Runs.icN d0_211 (teq hc46).2 <| ?_
      exact Runs.iinc (P' := [vr sa, vr C.2.2.1, vl l2, v2, vl l4, v2, vi (i6 + (-1 : Int32)), vi i7, vi i8, vi i9, vn, vn, vi i12, vi i13, vi i14, vn, vi r42, vn, vn]) d0_214 ci_m1 rfl (by decide) rfl <| Runs.goto (pc' := 367) d0_217 (by decide) <| Runs.forget [true, true, true, true, true, true, true, true, true, true, false, false, false, false, false, false, false, false, false] rfl <| L_law_b367_p hs k27 hk27 q43 l2 l4 (i6 + (-1 : Int32)) i7 i8 i9 hf
    · refine Runs.icY (pc' := 217) d0_211 (feq hc46).2 (by decide) <| ?_
      exact Runs.goto (pc' := 367) d0_217 (by decide) <| Runs.forget [true, true, true, true, true, true, true, true, true, true, false, false, false, false, false, false, false, false, false] rfl <| L_law_b367_p hs k27 hk27 q43 l2 l4 i6 i7 i8 i9 hf
  · refine Runs.ifN d0_184 (flt hc45).1 <| ?_
    refine Runs.lload d0_187 rfl <| Runs.iload d0_189 rfl <| Runs.i2l d0_191 <| Runs.bipush d0_192 cb_8 <| Runs.iload d0_194 rfl <| Runs.imul d0_196 <| Runs.lshl d0_197 <| Runs.ladd d0_198 <| Runs.lstore (P' := [vr sa, vr C.2.2.1, vl l2, v2, vl (l4 + (r42.toInt64 <<< (((8 : Int32) * i14) &&& 0x3f).toInt64)), v2, vi i6, vi i7, vi i8, vi i9, vn, vn, vi i12, vi i13, vi i14, vn, vi r42, vn, vn]) d0_199 (by decide) rfl <| Runs.iinc (P' := [vr sa, vr C.2.2.1, vl l2, v2, vl (l4 + (r42.toInt64 <<< (((8 : Int32) * i14) &&& 0x3f).toInt64)), v2, vi (i6 + (-1 : Int32)), vi i7, vi i8, vi i9, vn, vn, vi i12, vi i13, vi i14, vn, vi r42, vn, vn]) d0_201 ci_m1 rfl (by decide) rfl <| Runs.goto (pc' := 217) d0_204 (by decide) <| Runs.goto (pc' := 367) d0_217 (by decide) <| ?_
    exact Runs.forget [true, true, true, true, true, true, true, true, true, true, false, false, false, false, false, false, false, false, false] rfl <| L_law_b367_p hs k27 hk27 q43 l2 (l4 + (r42.toInt64 <<< (((8 : Int32) * i14) &&& 0x3f).toInt64)) (i6 + (-1 : Int32)) i7 i8 i9 hf
def L_law_w27 (NF : Nat) (z : Int32) (f : Int32 → Int32) (k27 : Rec → Int64 → Int64 → Int32 → Int32 → Int32 → Int32 → Option (Int32)) (ob : Rec) (l2 : Int64) (l4 : Int64) (i6 : Int32) (i7 : Int32) (i8 : Int32) (i9 : Int32) : Option (Int32) :=
  if (i9 + (3 : Int32)) < z then
    chk z i9 <|
    chk z (i9 + (1 : Int32)) <|
    chk z (i9 + (2 : Int32)) <|
    chk z (i9 + (3 : Int32)) <|
    if ((f i9) &&& (15 : Int32)) < (4 : Int32) then
      bind2 (X_broadcast NF ob ((f (i9 + (1 : Int32))) &&& (3 : Int32))) fun r7 q8 =>
      if (0 : Int32) < r7 then
        if r7.toInt64 = (((l2 >>> (((4 : Int32) * ((f (i9 + (1 : Int32))) &&& (3 : Int32))) &&& 0x3f).toInt64) &&& (15 : Int64)) + (1 : Int64)) then
          L_law_b367 NF z f k27 q8 (l2 + ((1 : Int64) <<< (((4 : Int32) * ((f (i9 + (1 : Int32))) &&& (3 : Int32))) &&& 0x3f).toInt64)) (l4 + ((1 : Int64) <<< (((8 : Int32) * ((f (i9 + (1 : Int32))) &&& (3 : Int32))) &&& 0x3f).toInt64)) (i6 + (2 : Int32)) i7 i8 i9
        else
          some (0 : Int32)
      else
        L_law_b367 NF z f k27 q8 l2 l4 i6 i7 i8 i9
    else
      if ((f i9) &&& (15 : Int32)) < (8 : Int32) then
        L_law_b170 NF z f k27 ob l2 l4 i6 i7 i8 i9 ((f (i9 + (2 : Int32))) &&& (3 : Int32)) (((f (i9 + (3 : Int32))) &&& (3 : Int32)) + (1 : Int32)) ((f (i9 + (1 : Int32))) &&& (3 : Int32))
      else
        if ((f i9) &&& (15 : Int32)) = (15 : Int32) then
          L_law_b170 NF z f k27 ob l2 l4 i6 i7 i8 i9 ((f (i9 + (2 : Int32))) &&& (3 : Int32)) (((f (i9 + (3 : Int32))) &&& (3 : Int32)) + (1 : Int32)) ((f (i9 + (1 : Int32))) &&& (3 : Int32))
        else
          if ((f i9) &&& (15 : Int32)) = (8 : Int32) then
            bind2 (X_duplicate ob ((f (i9 + (2 : Int32))) &&& (3 : Int32)) (((f (i9 + (3 : Int32))) &&& (3 : Int32)) + (1 : Int32)) ((f (i9 + (1 : Int32))) &&& (3 : Int32))) fun r15 q16 =>
            if (0 : Int32) < r15 then
              L_law_b367 NF z f k27 q16 l2 l4 (i6 + (1 : Int32)) i7 i8 i9
            else
              L_law_b367 NF z f k27 q16 l2 l4 i6 i7 i8 i9
          else
            if ((f i9) &&& (15 : Int32)) = (9 : Int32) then
              bind2 (X_drop ob ((f (i9 + (2 : Int32))) &&& (3 : Int32)) (((f (i9 + (3 : Int32))) &&& (3 : Int32)) + (1 : Int32)) ((f (i9 + (1 : Int32))) &&& (3 : Int32))) fun r20 q21 =>
              if r20 < (0 : Int32) then
                L_law_b367 NF z f k27 q21 l2 l4 i6 i7 i8 i9
              else
                L_law_b367 NF z f k27 q21 l2 l4 (i6 + (-1 : Int32)) i7 i8 i9
            else
              if ((f i9) &&& (15 : Int32)) < (12 : Int32) then
                bind2 (X_retransmit ob (((f (i9 + (1 : Int32))) >>> ((2 : Int32) &&& 31)) &&& (3 : Int32)) ((f (i9 + (1 : Int32))) &&& (3 : Int32)) ((f (i9 + (2 : Int32))) &&& (3 : Int32)) (((f (i9 + (3 : Int32))) &&& (3 : Int32)) + (1 : Int32))) fun r25 q26 =>
                if r25 = (0 : Int32) then
                  L_law_b367 NF z f k27 q26 l2 l4 (i6 + (1 : Int32)) i7 i8 i9
                else
                  L_law_b367 NF z f k27 q26 l2 l4 i6 i7 i8 i9
              else
                if ((f i9) &&& (15 : Int32)) = (12 : Int32) then
                  bind2 (X_gossip NF ob (((f (i9 + (1 : Int32))) >>> ((2 : Int32) &&& 31)) &&& (3 : Int32)) ((f (i9 + (1 : Int32))) &&& (3 : Int32))) fun r30 q31 =>
                  L_law_b367 NF z f k27 q31 l2 l4 i6 i7 i8 i9
                else
                  if ((f i9) &&& (15 : Int32)) = (13 : Int32) then
                    bind2 (X_prune NF ob ((f (i9 + (1 : Int32))) &&& (3 : Int32))) fun r34 q35 =>
                    if r34 < (0 : Int32) then
                      L_law_b367 NF z f k27 q35 l2 l4 i6 i7 i8 i9
                    else
                      L_law_b367 NF z f k27 q35 l2 l4 i6 (i7 + r34) i8 i9
                  else
                    bind2 (X_crash NF ob ((f (i9 + (1 : Int32))) &&& (3 : Int32))) fun r38 q39 =>
                    if r38 = (0 : Int32) then
                      L_law_b367 NF z f k27 q39 l2 l4 i6 i7 (i8 ||| ((1 : Int32) <<< (((f (i9 + (1 : Int32))) &&& (3 : Int32)) &&& 31))) i9
                    else
                      L_law_b367 NF z f k27 q39 l2 l4 i6 i7 i8 i9
  else
    some (1 : Int32)
def L_law_l27 (NF : Nat) (z : Int32) (f : Int32 → Int32) : Nat → Rec → Int64 → Int64 → Int32 → Int32 → Int32 → Int32 → Option (Int32)
  | 0, _, _, _, _, _, _, _ => none
  | n + 1, ob, l2, l4, i6, i7, i8, i9 => L_law_w27 NF z f (L_law_l27 NF z f n) ob l2 l4 i6 i7 i8 i9
set_option maxRecDepth 65536 in
set_option maxHeartbeats 4000000 in
theorem L_law_w27_p {C : Ctx} {sa : Nat} {z : Int32} {f : Int32 → Int32} (hs : ScrF C sa z f) {res : Int32} {NF : Nat} (k27 : Rec → Int64 → Int64 → Int32 → Int32 → Int32 → Int32 → Option (Int32)) (hk27 : ∀ (ob : Rec) (l2 : Int64) (l4 : Int64) (i6 : Int32) (i7 : Int32) (i8 : Int32) (i9 : Int32), k27 ob l2 l4 i6 i7 i8 i9 = some res → Runs C B0 10 2659 27 [vr sa, vr C.2.2.1, vl l2, v2, vl l4, v2, vi i6, vi i7, vi i8, vi i9, vn, vn, vn, vn, vn, vn, vn, vn, vn] [] (C.2.2.1 + 1 + 9, (C.2.2.1, 9, ob) :: []) (fun v _ => v = (some (.int res)))) (ob : Rec) (l2 : Int64) (l4 : Int64) (i6 : Int32) (i7 : Int32) (i8 : Int32) (i9 : Int32) (hf : L_law_w27 NF z f k27 ob l2 l4 i6 i7 i8 i9 = some res) : Runs C B0 10 2659 27 [vr sa, vr C.2.2.1, vl l2, v2, vl l4, v2, vi i6, vi i7, vi i8, vi i9, vn, vn, vn, vn, vn, vn, vn, vn, vn] [] (C.2.2.1 + 1 + 9, (C.2.2.1, 9, ob) :: []) (fun v _ => v = (some (.int res))) := by
  delta L_law_w27 at hf
  refine Runs.iload d0_27 rfl <| Runs.iconst d0_29 ci_3 <| Runs.iadd d0_30 <| Runs.aloadN d0_31 rfl <| Runs.lenS hs d0_32 <| ?_
  refine ite_el hf (fun hc1 hf => ?_) (fun hc1 hf => ?_)
  · refine Runs.icN d0_33 (tlt hc1).2.1 <| ?_
    refine Runs.aloadN d0_36 rfl <| Runs.iload d0_37 rfl <| ?_
    refine chk_el hf fun hi2 hf => ?_
    refine Runs.ialoadS hs d0_39 hi2 <| Runs.bipush d0_40 cb_15 <| Runs.iand d0_42 <| Runs.istore (P' := [vr sa, vr C.2.2.1, vl l2, v2, vl l4, v2, vi i6, vi i7, vi i8, vi i9, vi ((f i9) &&& (15 : Int32)), vn, vn, vn, vn, vn, vn, vn, vn]) d0_43 (by decide) rfl <| Runs.aloadN d0_45 rfl <| Runs.iload d0_46 rfl <| Runs.iconst d0_48 ci_1 <| Runs.iadd d0_49 <| ?_
    refine chk_el hf fun hi3 hf => ?_
    refine Runs.ialoadS hs d0_50 hi3 <| Runs.istore (P' := [vr sa, vr C.2.2.1, vl l2, v2, vl l4, v2, vi i6, vi i7, vi i8, vi i9, vi ((f i9) &&& (15 : Int32)), vi (f (i9 + (1 : Int32))), vn, vn, vn, vn, vn, vn, vn]) d0_51 (by decide) rfl <| Runs.aloadN d0_53 rfl <| Runs.iload d0_54 rfl <| Runs.iconst d0_56 ci_2 <| Runs.iadd d0_57 <| ?_
    refine chk_el hf fun hi4 hf => ?_
    refine Runs.ialoadS hs d0_58 hi4 <| Runs.iconst d0_59 ci_3 <| Runs.iand d0_60 <| Runs.istore (P' := [vr sa, vr C.2.2.1, vl l2, v2, vl l4, v2, vi i6, vi i7, vi i8, vi i9, vi ((f i9) &&& (15 : Int32)), vi (f (i9 + (1 : Int32))), vi ((f (i9 + (2 : Int32))) &&& (3 : Int32)), vn, vn, vn, vn, vn, vn]) d0_61 (by decide) rfl <| Runs.aloadN d0_63 rfl <| Runs.iload d0_64 rfl <| Runs.iconst d0_66 ci_3 <| Runs.iadd d0_67 <| ?_
    refine chk_el hf fun hi5 hf => ?_
    refine Runs.ialoadS hs d0_68 hi5 <| Runs.iconst d0_69 ci_3 <| Runs.iand d0_70 <| Runs.iconst d0_71 ci_1 <| Runs.iadd d0_72 <| Runs.istore (P' := [vr sa, vr C.2.2.1, vl l2, v2, vl l4, v2, vi i6, vi i7, vi i8, vi i9, vi ((f i9) &&& (15 : Int32)), vi (f (i9 + (1 : Int32))), vi ((f (i9 + (2 : Int32))) &&& (3 : Int32)), vi (((f (i9 + (3 : Int32))) &&& (3 : Int32)) + (1 : Int32)), vn, vn, vn, vn, vn]) d0_73 (by decide) rfl <| Runs.iload d0_75 rfl <| Runs.iconst d0_77 ci_3 <| Runs.iand d0_78 <| Runs.istore (P' := [vr sa, vr C.2.2.1, vl l2, v2, vl l4, v2, vi i6, vi i7, vi i8, vi i9, vi ((f i9) &&& (15 : Int32)), vi (f (i9 + (1 : Int32))), vi ((f (i9 + (2 : Int32))) &&& (3 : Int32)), vi (((f (i9 + (3 : Int32))) &&& (3 : Int32)) + (1 : Int32)), vi ((f (i9 + (1 : Int32))) &&& (3 : Int32)), vn, vn, vn, vn]) d0_79 (by decide) rfl <| Runs.iload d0_81 rfl <| Runs.iconst d0_83 ci_2 <| ?_
    refine Runs.ishr d0_84 <| Runs.iconst d0_85 ci_3 <| Runs.iand d0_86 <| Runs.istore (P' := [vr sa, vr C.2.2.1, vl l2, v2, vl l4, v2, vi i6, vi i7, vi i8, vi i9, vi ((f i9) &&& (15 : Int32)), vi (f (i9 + (1 : Int32))), vi ((f (i9 + (2 : Int32))) &&& (3 : Int32)), vi (((f (i9 + (3 : Int32))) &&& (3 : Int32)) + (1 : Int32)), vi ((f (i9 + (1 : Int32))) &&& (3 : Int32)), vi (((f (i9 + (1 : Int32))) >>> ((2 : Int32) &&& 31)) &&& (3 : Int32)), vn, vn, vn]) d0_87 (by decide) rfl <| Runs.iload d0_89 rfl <| Runs.iconst d0_91 ci_4 <| ?_
    refine ite_el hf (fun hc6 hf => ?_) (fun hc6 hf => ?_)
    · refine Runs.icN d0_92 (tlt hc6).2.1 <| ?_
      refine Runs.aloadN d0_95 rfl <| Runs.iload d0_96 rfl <| ?_
      refine bind2_el hf fun r7 q8 hg9 hf => ?_
      refine Runs.callV (N := B2) (W := 0) (as := [.int ((f (i9 + (1 : Int32))) &&& (3 : Int32))]) (S' := []) d0_98 w33 w34 w35 w36 cw2 ar2 rk0_2_0 (by decide) rfl rfl (X_broadcast_pay hg9) <| ans1 <| Runs.istore (P' := [vr sa, vr C.2.2.1, vl l2, v2, vl l4, v2, vi i6, vi i7, vi i8, vi i9, vi ((f i9) &&& (15 : Int32)), vi (f (i9 + (1 : Int32))), vi ((f (i9 + (2 : Int32))) &&& (3 : Int32)), vi (((f (i9 + (3 : Int32))) &&& (3 : Int32)) + (1 : Int32)), vi ((f (i9 + (1 : Int32))) &&& (3 : Int32)), vi (((f (i9 + (1 : Int32))) >>> ((2 : Int32) &&& 31)) &&& (3 : Int32)), vi r7, vn, vn]) d0_101 (by decide) rfl <| Runs.iload d0_103 rfl <| ?_
      refine ite_el hf (fun hc10 hf => ?_) (fun hc10 hf => ?_)
      · refine Runs.ifN d0_105 (tlt hc10).2.2.2 <| ?_
        refine Runs.iload d0_108 rfl <| Runs.i2l d0_110 <| Runs.lloadN d0_111 rfl <| Runs.iconst d0_112 ci_4 <| Runs.iload d0_113 rfl <| Runs.imul d0_115 <| Runs.lshr d0_116 <| Runs.ldc2 d0_117 w58 <| Runs.land d0_120 <| Runs.lconst d0_121 cl_1 <| Runs.ladd d0_122 <| Runs.lcmp d0_123 <| ?_
        refine ite_el hf (fun hc11 hf => ?_) (fun hc11 hf => ?_)
        · refine Runs.ifY (pc' := 129) d0_124 (teq ((lw_eq _ _).mpr hc11)).1 (by decide) <| ?_
          refine Runs.lloadN d0_129 rfl <| Runs.lconst d0_130 cl_1 <| Runs.iconst d0_131 ci_4 <| Runs.iload d0_132 rfl <| Runs.imul d0_134 <| Runs.lshl d0_135 <| Runs.ladd d0_136 <| Runs.lstoreN (P' := [vr sa, vr C.2.2.1, vl (l2 + ((1 : Int64) <<< (((4 : Int32) * ((f (i9 + (1 : Int32))) &&& (3 : Int32))) &&& 0x3f).toInt64)), v2, vl l4, v2, vi i6, vi i7, vi i8, vi i9, vi ((f i9) &&& (15 : Int32)), vi (f (i9 + (1 : Int32))), vi ((f (i9 + (2 : Int32))) &&& (3 : Int32)), vi (((f (i9 + (3 : Int32))) &&& (3 : Int32)) + (1 : Int32)), vi ((f (i9 + (1 : Int32))) &&& (3 : Int32)), vi (((f (i9 + (1 : Int32))) >>> ((2 : Int32) &&& 31)) &&& (3 : Int32)), vi r7, vn, vn]) d0_137 (by decide) rfl <| Runs.lload d0_138 rfl <| Runs.lconst d0_140 cl_1 <| Runs.bipush d0_141 cb_8 <| Runs.iload d0_143 rfl <| ?_
          exact Runs.imul d0_145 <| Runs.lshl d0_146 <| Runs.ladd d0_147 <| Runs.lstore (P' := [vr sa, vr C.2.2.1, vl (l2 + ((1 : Int64) <<< (((4 : Int32) * ((f (i9 + (1 : Int32))) &&& (3 : Int32))) &&& 0x3f).toInt64)), v2, vl (l4 + ((1 : Int64) <<< (((8 : Int32) * ((f (i9 + (1 : Int32))) &&& (3 : Int32))) &&& 0x3f).toInt64)), v2, vi i6, vi i7, vi i8, vi i9, vi ((f i9) &&& (15 : Int32)), vi (f (i9 + (1 : Int32))), vi ((f (i9 + (2 : Int32))) &&& (3 : Int32)), vi (((f (i9 + (3 : Int32))) &&& (3 : Int32)) + (1 : Int32)), vi ((f (i9 + (1 : Int32))) &&& (3 : Int32)), vi (((f (i9 + (1 : Int32))) >>> ((2 : Int32) &&& 31)) &&& (3 : Int32)), vi r7, vn, vn]) d0_148 (by decide) rfl <| Runs.iinc (P' := [vr sa, vr C.2.2.1, vl (l2 + ((1 : Int64) <<< (((4 : Int32) * ((f (i9 + (1 : Int32))) &&& (3 : Int32))) &&& 0x3f).toInt64)), v2, vl (l4 + ((1 : Int64) <<< (((8 : Int32) * ((f (i9 + (1 : Int32))) &&& (3 : Int32))) &&& 0x3f).toInt64)), v2, vi (i6 + (2 : Int32)), vi i7, vi i8, vi i9, vi ((f i9) &&& (15 : Int32)), vi (f (i9 + (1 : Int32))), vi ((f (i9 + (2 : Int32))) &&& (3 : Int32)), vi (((f (i9 + (3 : Int32))) &&& (3 : Int32)) + (1 : Int32)), vi ((f (i9 + (1 : Int32))) &&& (3 : Int32)), vi (((f (i9 + (1 : Int32))) >>> ((2 : Int32) &&& 31)) &&& (3 : Int32)), vi r7, vn, vn]) d0_150 ci_2 rfl (by decide) rfl <| Runs.goto (pc' := 367) d0_153 (by decide) <| Runs.forget [true, true, true, true, true, true, true, true, true, true, false, false, false, false, false, false, false, false, false] rfl <| L_law_b367_p hs k27 hk27 q8 (l2 + ((1 : Int64) <<< (((4 : Int32) * ((f (i9 + (1 : Int32))) &&& (3 : Int32))) &&& 0x3f).toInt64)) (l4 + ((1 : Int64) <<< (((8 : Int32) * ((f (i9 + (1 : Int32))) &&& (3 : Int32))) &&& 0x3f).toInt64)) (i6 + (2 : Int32)) i7 i8 i9 hf
        · refine Runs.ifN d0_124 (feq (fun u => hc11 ((lw_eq _ _).mp u))).1 <| ?_
          obtain rfl := Option.some.inj hf
          exact Runs.iconst d0_127 ci_0 <| Runs.retZ (y := (0 : Int32)) d0_128 rfl ⟨by decide, by decide⟩ rfl rfl
      · refine Runs.ifY (pc' := 153) d0_105 (flt hc10).2.2.2 (by decide) <| ?_
        exact Runs.goto (pc' := 367) d0_153 (by decide) <| Runs.forget [true, true, true, true, true, true, true, true, true, true, false, false, false, false, false, false, false, false, false] rfl <| L_law_b367_p hs k27 hk27 q8 l2 l4 i6 i7 i8 i9 hf
    · refine Runs.icY (pc' := 156) d0_92 (flt hc6).2.1 (by decide) <| ?_
      refine Runs.iload d0_156 rfl <| Runs.bipush d0_158 cb_8 <| ?_
      refine ite_el hf (fun hc12 hf => ?_) (fun hc12 hf => ?_)
      · exact Runs.icY (pc' := 170) d0_160 (tlt hc12).1 (by decide) <| Runs.forget [true, true, true, true, true, true, true, true, true, true, false, false, true, true, true, false, false, false, false] rfl <| L_law_b170_p hs k27 hk27 ob l2 l4 i6 i7 i8 i9 ((f (i9 + (2 : Int32))) &&& (3 : Int32)) (((f (i9 + (3 : Int32))) &&& (3 : Int32)) + (1 : Int32)) ((f (i9 + (1 : Int32))) &&& (3 : Int32)) hf
      · refine Runs.icN d0_160 (flt hc12).1 <| ?_
        refine Runs.iload d0_163 rfl <| Runs.bipush d0_165 cb_15 <| ?_
        refine ite_el hf (fun hc13 hf => ?_) (fun hc13 hf => ?_)
        · exact Runs.icN d0_167 (teq hc13).2 <| Runs.forget [true, true, true, true, true, true, true, true, true, true, false, false, true, true, true, false, false, false, false] rfl <| L_law_b170_p hs k27 hk27 ob l2 l4 i6 i7 i8 i9 ((f (i9 + (2 : Int32))) &&& (3 : Int32)) (((f (i9 + (3 : Int32))) &&& (3 : Int32)) + (1 : Int32)) ((f (i9 + (1 : Int32))) &&& (3 : Int32)) hf
        · refine Runs.icY (pc' := 220) d0_167 (feq hc13).2 (by decide) <| ?_
          refine Runs.iload d0_220 rfl <| Runs.bipush d0_222 cb_8 <| ?_
          refine ite_el hf (fun hc14 hf => ?_) (fun hc14 hf => ?_)
          · refine Runs.icN d0_224 (teq hc14).2 <| ?_
            refine Runs.aloadN d0_227 rfl <| Runs.iload d0_228 rfl <| Runs.iload d0_230 rfl <| Runs.iload d0_232 rfl <| ?_
            refine bind2_el hf fun r15 q16 hg17 hf => ?_
            refine Runs.callV (N := B20) (W := 0) (as := [.int ((f (i9 + (2 : Int32))) &&& (3 : Int32)), .int (((f (i9 + (3 : Int32))) &&& (3 : Int32)) + (1 : Int32)), .int ((f (i9 + (1 : Int32))) &&& (3 : Int32))]) (S' := []) d0_234 w113 w114 w115 w116 cw20 ar20 rk0_20_0 (by decide) rfl rfl (X_duplicate_pay hg17) <| ans1 <| ?_
            refine ite_el hf (fun hc18 hf => ?_) (fun hc18 hf => ?_)
            · refine Runs.ifN d0_237 (tlt hc18).2.2.2 <| ?_
              exact Runs.iinc (P' := [vr sa, vr C.2.2.1, vl l2, v2, vl l4, v2, vi (i6 + (1 : Int32)), vi i7, vi i8, vi i9, vi ((f i9) &&& (15 : Int32)), vi (f (i9 + (1 : Int32))), vi ((f (i9 + (2 : Int32))) &&& (3 : Int32)), vi (((f (i9 + (3 : Int32))) &&& (3 : Int32)) + (1 : Int32)), vi ((f (i9 + (1 : Int32))) &&& (3 : Int32)), vi (((f (i9 + (1 : Int32))) >>> ((2 : Int32) &&& 31)) &&& (3 : Int32)), vn, vn, vn]) d0_240 ci_1 rfl (by decide) rfl <| Runs.goto (pc' := 367) d0_243 (by decide) <| Runs.forget [true, true, true, true, true, true, true, true, true, true, false, false, false, false, false, false, false, false, false] rfl <| L_law_b367_p hs k27 hk27 q16 l2 l4 (i6 + (1 : Int32)) i7 i8 i9 hf
            · exact Runs.ifY (pc' := 367) d0_237 (flt hc18).2.2.2 (by decide) <| Runs.forget [true, true, true, true, true, true, true, true, true, true, false, false, false, false, false, false, false, false, false] rfl <| L_law_b367_p hs k27 hk27 q16 l2 l4 i6 i7 i8 i9 hf
          · refine Runs.icY (pc' := 246) d0_224 (feq hc14).2 (by decide) <| ?_
            refine Runs.iload d0_246 rfl <| Runs.bipush d0_248 cb_9 <| ?_
            refine ite_el hf (fun hc19 hf => ?_) (fun hc19 hf => ?_)
            · refine Runs.icN d0_250 (teq hc19).2 <| ?_
              refine Runs.aloadN d0_253 rfl <| Runs.iload d0_254 rfl <| Runs.iload d0_256 rfl <| Runs.iload d0_258 rfl <| ?_
              refine bind2_el hf fun r20 q21 hg22 hf => ?_
              refine Runs.callV (N := B25) (W := 0) (as := [.int ((f (i9 + (2 : Int32))) &&& (3 : Int32)), .int (((f (i9 + (3 : Int32))) &&& (3 : Int32)) + (1 : Int32)), .int ((f (i9 + (1 : Int32))) &&& (3 : Int32))]) (S' := []) d0_260 w137 w138 w139 w140 cw25 ar25 rk0_25_0 (by decide) rfl rfl (X_drop_pay hg22) <| ans1 <| ?_
              refine ite_el hf (fun hc23 hf => ?_) (fun hc23 hf => ?_)
              · exact Runs.ifY (pc' := 367) d0_263 (tlt hc23).1 (by decide) <| Runs.forget [true, true, true, true, true, true, true, true, true, true, false, false, false, false, false, false, false, false, false] rfl <| L_law_b367_p hs k27 hk27 q21 l2 l4 i6 i7 i8 i9 hf
              · refine Runs.ifN d0_263 (flt hc23).1 <| ?_
                exact Runs.iinc (P' := [vr sa, vr C.2.2.1, vl l2, v2, vl l4, v2, vi (i6 + (-1 : Int32)), vi i7, vi i8, vi i9, vi ((f i9) &&& (15 : Int32)), vi (f (i9 + (1 : Int32))), vi ((f (i9 + (2 : Int32))) &&& (3 : Int32)), vi (((f (i9 + (3 : Int32))) &&& (3 : Int32)) + (1 : Int32)), vi ((f (i9 + (1 : Int32))) &&& (3 : Int32)), vi (((f (i9 + (1 : Int32))) >>> ((2 : Int32) &&& 31)) &&& (3 : Int32)), vn, vn, vn]) d0_266 ci_m1 rfl (by decide) rfl <| Runs.goto (pc' := 367) d0_269 (by decide) <| Runs.forget [true, true, true, true, true, true, true, true, true, true, false, false, false, false, false, false, false, false, false] rfl <| L_law_b367_p hs k27 hk27 q21 l2 l4 (i6 + (-1 : Int32)) i7 i8 i9 hf
            · refine Runs.icY (pc' := 272) d0_250 (feq hc19).2 (by decide) <| ?_
              refine Runs.iload d0_272 rfl <| Runs.bipush d0_274 cb_12 <| ?_
              refine ite_el hf (fun hc24 hf => ?_) (fun hc24 hf => ?_)
              · refine Runs.icN d0_276 (tlt hc24).2.1 <| ?_
                refine Runs.aloadN d0_279 rfl <| Runs.iload d0_280 rfl <| Runs.iload d0_282 rfl <| Runs.iload d0_284 rfl <| Runs.iload d0_286 rfl <| ?_
                refine bind2_el hf fun r25 q26 hg27 hf => ?_
                refine Runs.callV (N := B26) (W := 0) (as := [.int (((f (i9 + (1 : Int32))) >>> ((2 : Int32) &&& 31)) &&& (3 : Int32)), .int ((f (i9 + (1 : Int32))) &&& (3 : Int32)), .int ((f (i9 + (2 : Int32))) &&& (3 : Int32)), .int (((f (i9 + (3 : Int32))) &&& (3 : Int32)) + (1 : Int32))]) (S' := []) d0_288 w142 w143 w144 w145 cw26 ar26 rk0_26_0 (by decide) rfl rfl (X_retransmit_pay hg27) <| ans1 <| ?_
                refine ite_el hf (fun hc28 hf => ?_) (fun hc28 hf => ?_)
                · refine Runs.ifN d0_291 (teq hc28).2 <| ?_
                  exact Runs.iinc (P' := [vr sa, vr C.2.2.1, vl l2, v2, vl l4, v2, vi (i6 + (1 : Int32)), vi i7, vi i8, vi i9, vi ((f i9) &&& (15 : Int32)), vi (f (i9 + (1 : Int32))), vi ((f (i9 + (2 : Int32))) &&& (3 : Int32)), vi (((f (i9 + (3 : Int32))) &&& (3 : Int32)) + (1 : Int32)), vi ((f (i9 + (1 : Int32))) &&& (3 : Int32)), vi (((f (i9 + (1 : Int32))) >>> ((2 : Int32) &&& 31)) &&& (3 : Int32)), vn, vn, vn]) d0_294 ci_1 rfl (by decide) rfl <| Runs.goto (pc' := 367) d0_297 (by decide) <| Runs.forget [true, true, true, true, true, true, true, true, true, true, false, false, false, false, false, false, false, false, false] rfl <| L_law_b367_p hs k27 hk27 q26 l2 l4 (i6 + (1 : Int32)) i7 i8 i9 hf
                · exact Runs.ifY (pc' := 367) d0_291 (feq hc28).2 (by decide) <| Runs.forget [true, true, true, true, true, true, true, true, true, true, false, false, false, false, false, false, false, false, false] rfl <| L_law_b367_p hs k27 hk27 q26 l2 l4 i6 i7 i8 i9 hf
              · refine Runs.icY (pc' := 300) d0_276 (flt hc24).2.1 (by decide) <| ?_
                refine Runs.iload d0_300 rfl <| Runs.bipush d0_302 cb_12 <| ?_
                refine ite_el hf (fun hc29 hf => ?_) (fun hc29 hf => ?_)
                · refine Runs.icN d0_304 (teq hc29).2 <| ?_
                  refine Runs.aloadN d0_307 rfl <| Runs.iload d0_308 rfl <| Runs.iload d0_310 rfl <| ?_
                  refine bind2_el hf fun r30 q31 hg32 hf => ?_
                  exact Runs.callV (N := B27) (W := 0) (as := [.int (((f (i9 + (1 : Int32))) >>> ((2 : Int32) &&& 31)) &&& (3 : Int32)), .int ((f (i9 + (1 : Int32))) &&& (3 : Int32))]) (S' := []) d0_312 w147 w148 w149 w150 cw27 ar27 rk0_27_0 (by decide) rfl rfl (X_gossip_pay hg32) <| ans1 <| Runs.pop d0_315 rfl <| Runs.goto (pc' := 367) d0_316 (by decide) <| Runs.forget [true, true, true, true, true, true, true, true, true, true, false, false, false, false, false, false, false, false, false] rfl <| L_law_b367_p hs k27 hk27 q31 l2 l4 i6 i7 i8 i9 hf
                · refine Runs.icY (pc' := 319) d0_304 (feq hc29).2 (by decide) <| ?_
                  refine Runs.iload d0_319 rfl <| Runs.bipush d0_321 cb_13 <| ?_
                  refine ite_el hf (fun hc33 hf => ?_) (fun hc33 hf => ?_)
                  · refine Runs.icN d0_323 (teq hc33).2 <| ?_
                    refine Runs.aloadN d0_326 rfl <| Runs.iload d0_327 rfl <| ?_
                    refine bind2_el hf fun r34 q35 hg36 hf => ?_
                    refine Runs.callV (N := B24) (W := 0) (as := [.int ((f (i9 + (1 : Int32))) &&& (3 : Int32))]) (S' := []) d0_329 w132 w133 w134 w135 cw24 ar24 rk0_24_0 (by decide) rfl rfl (X_prune_pay hg36) <| ans1 <| Runs.istore (P' := [vr sa, vr C.2.2.1, vl l2, v2, vl l4, v2, vi i6, vi i7, vi i8, vi i9, vi ((f i9) &&& (15 : Int32)), vi (f (i9 + (1 : Int32))), vi ((f (i9 + (2 : Int32))) &&& (3 : Int32)), vi (((f (i9 + (3 : Int32))) &&& (3 : Int32)) + (1 : Int32)), vi ((f (i9 + (1 : Int32))) &&& (3 : Int32)), vi (((f (i9 + (1 : Int32))) >>> ((2 : Int32) &&& 31)) &&& (3 : Int32)), vi r34, vn, vn]) d0_332 (by decide) rfl <| Runs.iload d0_334 rfl <| ?_
                    refine ite_el hf (fun hc37 hf => ?_) (fun hc37 hf => ?_)
                    · refine Runs.ifY (pc' := 346) d0_336 (tlt hc37).1 (by decide) <| ?_
                      exact Runs.goto (pc' := 367) d0_346 (by decide) <| Runs.forget [true, true, true, true, true, true, true, true, true, true, false, false, false, false, false, false, false, false, false] rfl <| L_law_b367_p hs k27 hk27 q35 l2 l4 i6 i7 i8 i9 hf
                    · refine Runs.ifN d0_336 (flt hc37).1 <| ?_
                      exact Runs.iload d0_339 rfl <| Runs.iload d0_341 rfl <| Runs.iadd d0_343 <| Runs.istore (P' := [vr sa, vr C.2.2.1, vl l2, v2, vl l4, v2, vi i6, vi (i7 + r34), vi i8, vi i9, vi ((f i9) &&& (15 : Int32)), vi (f (i9 + (1 : Int32))), vi ((f (i9 + (2 : Int32))) &&& (3 : Int32)), vi (((f (i9 + (3 : Int32))) &&& (3 : Int32)) + (1 : Int32)), vi ((f (i9 + (1 : Int32))) &&& (3 : Int32)), vi (((f (i9 + (1 : Int32))) >>> ((2 : Int32) &&& 31)) &&& (3 : Int32)), vi r34, vn, vn]) d0_344 (by decide) rfl <| Runs.goto (pc' := 367) d0_346 (by decide) <| Runs.forget [true, true, true, true, true, true, true, true, true, true, false, false, false, false, false, false, false, false, false] rfl <| L_law_b367_p hs k27 hk27 q35 l2 l4 i6 (i7 + r34) i8 i9 hf
                  · refine Runs.icY (pc' := 349) d0_323 (feq hc33).2 (by decide) <| ?_
                    refine Runs.aloadN d0_349 rfl <| Runs.iload d0_350 rfl <| ?_
                    refine bind2_el hf fun r38 q39 hg40 hf => ?_
                    refine Runs.callV (N := B21) (W := 0) (as := [.int ((f (i9 + (1 : Int32))) &&& (3 : Int32))]) (S' := []) d0_352 w118 w119 w120 w121 cw21 ar21 rk0_21_0 (by decide) rfl rfl (X_crash_pay hg40) <| ans1 <| ?_
                    refine ite_el hf (fun hc41 hf => ?_) (fun hc41 hf => ?_)
                    · refine Runs.ifN d0_355 (teq hc41).2 <| ?_
                      exact Runs.iload d0_358 rfl <| Runs.iconst d0_360 ci_1 <| Runs.iload d0_361 rfl <| Runs.ishl d0_363 <| Runs.ior d0_364 <| Runs.istore (P' := [vr sa, vr C.2.2.1, vl l2, v2, vl l4, v2, vi i6, vi i7, vi (i8 ||| ((1 : Int32) <<< (((f (i9 + (1 : Int32))) &&& (3 : Int32)) &&& 31))), vi i9, vi ((f i9) &&& (15 : Int32)), vi (f (i9 + (1 : Int32))), vi ((f (i9 + (2 : Int32))) &&& (3 : Int32)), vi (((f (i9 + (3 : Int32))) &&& (3 : Int32)) + (1 : Int32)), vi ((f (i9 + (1 : Int32))) &&& (3 : Int32)), vi (((f (i9 + (1 : Int32))) >>> ((2 : Int32) &&& 31)) &&& (3 : Int32)), vn, vn, vn]) d0_365 (by decide) rfl <| Runs.forget [true, true, true, true, true, true, true, true, true, true, false, false, false, false, false, false, false, false, false] rfl <| L_law_b367_p hs k27 hk27 q39 l2 l4 i6 i7 (i8 ||| ((1 : Int32) <<< (((f (i9 + (1 : Int32))) &&& (3 : Int32)) &&& 31))) i9 hf
                    · exact Runs.ifY (pc' := 367) d0_355 (feq hc41).2 (by decide) <| Runs.forget [true, true, true, true, true, true, true, true, true, true, false, false, false, false, false, false, false, false, false] rfl <| L_law_b367_p hs k27 hk27 q39 l2 l4 i6 i7 i8 i9 hf
  · refine Runs.icY (pc' := 476) d0_33 (flt hc1).2.1 (by decide) <| ?_
    obtain rfl := Option.some.inj hf
    exact Runs.iconst d0_476 ci_1 <| Runs.retZ (y := (1 : Int32)) d0_477 rfl ⟨by decide, by decide⟩ rfl rfl
theorem L_law_l27_p {C : Ctx} {sa : Nat} {z : Int32} {f : Int32 → Int32} (hs : ScrF C sa z f) {res : Int32} {NF : Nat} (n : Nat) (ob : Rec) (l2 : Int64) (l4 : Int64) (i6 : Int32) (i7 : Int32) (i8 : Int32) (i9 : Int32) (hf : L_law_l27 NF z f n ob l2 l4 i6 i7 i8 i9 = some res) : Runs C B0 10 2659 27 [vr sa, vr C.2.2.1, vl l2, v2, vl l4, v2, vi i6, vi i7, vi i8, vi i9, vn, vn, vn, vn, vn, vn, vn, vn, vn] [] (C.2.2.1 + 1 + 9, (C.2.2.1, 9, ob) :: []) (fun v _ => v = (some (.int res))) := by
  induction n generalizing ob l2 l4 i6 i7 i8 i9 with
  | zero => cases (show (none : Option (Int32)) = some res from hf)
  | succ n ih => exact L_law_w27_p hs (L_law_l27 NF z f n) (fun ob l2 l4 i6 i7 i8 i9 h => ih _ _ _ _ _ _ _ h) ob l2 l4 i6 i7 i8 i9 hf
def L_law (NF : Nat) (z : Int32) (f : Int32 → Int32) : Option (Int32) :=
  (X_init (3 : Int32) (4 : Int32)).bind fun q59 =>
  L_law_l27 NF z f NF q59 (0 : Int64) (0 : Int64) (0 : Int32) (0 : Int32) (0 : Int32) (0 : Int32)
set_option maxRecDepth 65536 in
set_option maxHeartbeats 4000000 in
theorem L_law_p {C : Ctx} {sa : Nat} {z : Int32} {f : Int32 → Int32} (hs : ScrF C sa z f) {res : Int32} {NF : Nat} (hf : L_law NF z f = some res) : Runs C B0 0 0 0 [vr sa, vn, vn, vn, vn, vn, vn, vn, vn, vn, vn, vn, vn, vn, vn, vn, vn, vn, vn] [] (C.2.2.1, []) (fun v _ => v = (some (.int res))) := by
  delta L_law at hf
  refine Runs.newK (k' := 1) (n' := 11) d0_0 w0 ⟨by decide, by decide⟩ rfl rfl (by intro x hx; cases hx) <| Runs.dup d0_3 rfl <| Runs.iconst d0_4 ci_3 <| Runs.iconst d0_5 ci_4 <| ?_
  refine bind_el hf fun q59 hg60 hf => ?_
  refine Runs.callI (N := B1) (k' := 10) (n' := 2659) (W := 1) (as := [.int (3 : Int32), .int (4 : Int32)]) (S' := [.ref C.2.2.1]) d0_6 rfl rfl w3 w4 cw1 ar1 (by decide) rfl rfl rfl rfl (X_init_pay hg60) <| ans0 <| Runs.astoreN (P' := [vr sa, vr C.2.2.1, vn, vn, vn, vn, vn, vn, vn, vn, vn, vn, vn, vn, vn, vn, vn, vn, vn]) d0_9 (by decide) rfl <| Runs.lconst d0_10 cl_0 <| Runs.lstoreN (P' := [vr sa, vr C.2.2.1, vl (0 : Int64), v2, vn, vn, vn, vn, vn, vn, vn, vn, vn, vn, vn, vn, vn, vn, vn]) d0_11 (by decide) rfl <| Runs.lconst d0_12 cl_0 <| Runs.lstore (P' := [vr sa, vr C.2.2.1, vl (0 : Int64), v2, vl (0 : Int64), v2, vn, vn, vn, vn, vn, vn, vn, vn, vn, vn, vn, vn, vn]) d0_13 (by decide) rfl <| Runs.iconst d0_15 ci_0 <| Runs.istore (P' := [vr sa, vr C.2.2.1, vl (0 : Int64), v2, vl (0 : Int64), v2, vi (0 : Int32), vn, vn, vn, vn, vn, vn, vn, vn, vn, vn, vn, vn]) d0_16 (by decide) rfl <| Runs.iconst d0_18 ci_0 <| Runs.istore (P' := [vr sa, vr C.2.2.1, vl (0 : Int64), v2, vl (0 : Int64), v2, vi (0 : Int32), vi (0 : Int32), vn, vn, vn, vn, vn, vn, vn, vn, vn, vn, vn]) d0_19 (by decide) rfl <| Runs.iconst d0_21 ci_0 <| Runs.istore (P' := [vr sa, vr C.2.2.1, vl (0 : Int64), v2, vl (0 : Int64), v2, vi (0 : Int32), vi (0 : Int32), vi (0 : Int32), vn, vn, vn, vn, vn, vn, vn, vn, vn, vn]) d0_22 (by decide) rfl <| ?_
  exact Runs.iconst d0_24 ci_0 <| Runs.istore (P' := [vr sa, vr C.2.2.1, vl (0 : Int64), v2, vl (0 : Int64), v2, vi (0 : Int32), vi (0 : Int32), vi (0 : Int32), vi (0 : Int32), vn, vn, vn, vn, vn, vn, vn, vn, vn]) d0_25 (by decide) rfl <| L_law_l27_p hs NF q59 (0 : Int64) (0 : Int64) (0 : Int32) (0 : Int32) (0 : Int32) (0 : Int32) hf
theorem L_law_pay {C : Ctx} {sa : Nat} {z : Int32} {f : Int32 → Int32} (hs : ScrF C sa z f) {res : Int32} {NF : Nat} (hf : L_law NF z f = some res) : Pays C B0 [.ref sa] (C.2.2.1, []) (fun v _ => v = (some (.int res))) :=
  Pays.of pnL (Nat.le_of_ble_eq_true rfl) (P := [vr sa, vn, vn, vn, vn, vn, vn, vn, vn, vn, vn, vn, vn, vn, vn, vn, vn, vn, vn]) 18 rfl (L_law_p hs hf)
--OWED--
theorem gI_sI (ob : Rec) (k j : Nat) (v : Int32) : gI (sI ob k v) j = if j = k then v else gI ob j := rfl
theorem gI_sA (ob : Rec) (k j : Nat) (i v : Int32) : gI (sA ob k i v) j = gI ob j := rfl
theorem gI_sJ (ob : Rec) (k j : Nat) (i : Int32) (v : Int64) : gI (sJ ob k i v) j = gI ob j := rfl
theorem gA_sI (ob : Rec) (k j : Nat) (v x : Int32) : gA (sI ob k v) j x = gA ob j x := rfl
theorem gA_sA (ob : Rec) (k j : Nat) (i v x : Int32) : gA (sA ob k i v) j x = if j = k ∧ x = i then v else gA ob j x := rfl
theorem gA_sJ (ob : Rec) (k j : Nat) (i x : Int32) (v : Int64) : gA (sJ ob k i v) j x = gA ob j x := rfl
theorem gJ_sI (ob : Rec) (k j : Nat) (v x : Int32) : gJ (sI ob k v) j x = gJ ob j x := rfl
theorem gJ_sA (ob : Rec) (k j : Nat) (i v x : Int32) : gJ (sA ob k i v) j x = gJ ob j x := rfl
theorem gJ_sJ (ob : Rec) (k j : Nat) (i x : Int32) (v : Int64) : gJ (sJ ob k i v) j x = if j = k ∧ x = i then v else gJ ob j x := rfl
theorem gI_z (k : Nat) : gI zrec k = 0 := rfl
theorem gA_z (k : Nat) (i : Int32) : gA zrec k i = 0 := rfl
theorem gJ_z (k : Nat) (i : Int32) : gJ zrec k i = 0 := rfl
theorem chk_ok {γ : Type} {n i : Int32} {A : Option γ} (h : 0 ≤ i.toInt ∧ i.toInt < n.toInt) : chk n i A = A := by
  have h0 : ¬ i < 0 := by rw [Int32.lt_iff_toInt_lt]; show ¬ i.toInt < 0; omega
  have h1 : i < n := by rw [Int32.lt_iff_toInt_lt]; exact h.2
  unfold chk; rw [if_neg h0, if_pos h1]
theorem lt_i {x y : Int32} : x < y ↔ x.toInt < y.toInt := Int32.lt_iff_toInt_lt
theorem le_i {x y : Int32} : x ≤ y ↔ x.toInt ≤ y.toInt := Int32.le_iff_toInt_le
theorem eq_i32 {x y : Int32} : x = y ↔ x.toInt = y.toInt := Int32.toInt_inj.symm
theorem bm_id {n : Int} (h : -2147483648 ≤ n ∧ n < 2147483648) : n.bmod (2 ^ 32) = n := Int.bmod_eq_of_le (by omega) (by omega)
theorem ad {x y : Int32} (h : -2147483648 ≤ x.toInt + y.toInt ∧ x.toInt + y.toInt < 2147483648) : (x + y).toInt = x.toInt + y.toInt := by rw [Int32.toInt_add, bm_id h]
theorem sb {x y : Int32} (h : -2147483648 ≤ x.toInt - y.toInt ∧ x.toInt - y.toInt < 2147483648) : (x - y).toInt = x.toInt - y.toInt := by rw [Int32.toInt_sub, bm_id h]
theorem ml {x y : Int32} (h : -2147483648 ≤ x.toInt * y.toInt ∧ x.toInt * y.toInt < 2147483648) : (x * y).toInt = x.toInt * y.toInt := by rw [Int32.toInt_mul, bm_id h]
theorem bind2_some {α β γ : Type} (a : α) (b : β) (f : α → β → Option γ) : bind2 (some (a, b)) f = f a b := rfl
theorem and_b (x m : Int32) (k : Nat) (hm : m.toBitVec.toNat = k) (hk : k < 2147483648) : 0 ≤ (x &&& m).toInt ∧ (x &&& m).toInt ≤ (k : Int) := by
  have h1 : (x &&& m).toBitVec.toNat = x.toBitVec.toNat &&& m.toBitVec.toNat := by rw [Int32.toBitVec_and, BitVec.toNat_and]
  have h2 : (x &&& m).toBitVec.toNat ≤ k := by rw [h1, hm]; exact Nat.and_le_right
  have h3 : (x &&& m).toInt = ((x &&& m).toBitVec.toNat : Int) := by
    show (x &&& m).toBitVec.toInt = _
    exact BitVec.toInt_eq_toNat_of_lt (by omega)
  rw [h3]; omega
theorem mem8 (x : Int32) : (x &&& 7) ∈ ([0, 1, 2, 3, 4, 5, 6, 7] : List Int32) := by
  have h := and_b x 7 7 rfl (by omega)
  simp only [List.mem_cons, eq_i32, Int32.reduceToInt, List.not_mem_nil, or_false]
  omega
theorem mem2 (x : Int32) : (x &&& 1) ∈ ([0, 1] : List Int32) := by
  have h := and_b x 1 1 rfl (by omega)
  simp only [List.mem_cons, eq_i32, Int32.reduceToInt, List.not_mem_nil, or_false]
  omega
theorem dv {x y : Int32} (hx : 0 ≤ x.toInt) (hy : 0 < y.toInt) : (x / y).toInt = x.toInt / y.toInt := by
  rw [Int32.toInt_div, Int.tdiv_eq_ediv_of_nonneg hx]
  have h1 : x.toInt / y.toInt ≤ x.toInt := Int.ediv_le_self _ hx
  have h2 : 0 ≤ x.toInt / y.toInt := Int.ediv_nonneg hx (by omega)
  have h3 := x.toInt_lt
  exact Int.bmod_eq_of_le (by omega) (by omega)
theorem md {x y : Int32} (hx : 0 ≤ x.toInt) (_ : 0 < y.toInt) : (x % y).toInt = x.toInt % y.toInt := by
  rw [Int32.toInt_mod, Int.tmod_eq_emod_of_nonneg hx]
def n32 (n : Nat) : Int32 := Int32.ofInt (n : Int)
theorem nt (n : Nat) (h : n < 100000) : (n32 n).toInt = n := by
  unfold n32; rw [Int32.toInt_ofInt]; exact bm_id (by omega)
theorem n32_t (x : Int32) (h : 0 ≤ x.toInt) : n32 x.toInt.toNat = x := by
  unfold n32; rw [Int.toNat_of_nonneg h, Int32.ofInt_toInt]
def cN (f : Nat → Bool) : Nat → Nat
  | 0 => 0
  | n + 1 => cN f n + (if f n then 1 else 0)
theorem cN_le {f g : Nat → Bool} : ∀ n, (∀ i, i < n → f i = true → g i = true) → cN f n ≤ cN g n
  | 0, _ => Nat.le_refl 0
  | n + 1, h => by
    have h1 := cN_le n (fun i hi => h i (by omega))
    have h2 := h n (by omega)
    show cN f n + _ ≤ cN g n + _
    cases hf : f n
    · simp; omega
    · rw [h2 hf]; simp; omega
theorem cN_eq {f g : Nat → Bool} (n : Nat) (h : ∀ i, i < n → f i = g i) : cN f n = cN g n :=
  Nat.le_antisymm (cN_le n (fun i hi e => (h i hi) ▸ e)) (cN_le n (fun i hi e => (h i hi).symm ▸ e))
theorem cN_set {f g : Nat → Bool} {j : Nat} (fj : f j = false) (gj : g j = true) : ∀ n, j < n → (∀ i, i < n → i ≠ j → g i = f i) → cN g n = cN f n + 1
  | 0, h, _ => absurd h (by omega)
  | n + 1, h, e => by
    show cN g n + _ = cN f n + _ + 1
    by_cases c : j = n
    · subst c
      rw [cN_eq j (fun i hi => e i (by omega) (by omega)), fj, gj]; simp
    · rw [cN_set fj gj n (by omega) (fun i hi => e i (by omega)), e n (by omega) (fun h => c h.symm)]; omega
theorem cN_lt {f g : Nat → Bool} {j : Nat} (n : Nat) (hj : j < n) (fj : f j = false) (gj : g j = true) (h : ∀ i, i < n → f i = true → g i = true) : cN f n + 1 ≤ cN g n := by
  have := cN_set (f := f) (g := fun i => if i = j then true else f i) fj (by simp) n hj (fun i _ c => by simp [c])
  rw [← this]
  apply cN_le
  intro i hi e
  by_cases c : i = j
  · rw [c]; exact gj
  · simp only [c, if_false] at e; exact h i hi e
theorem cN_full {f : Nat → Bool} : ∀ n m, m ≤ n → (∀ i, i < m → f i = true) → m ≤ cN f n
  | 0, m, h, _ => by omega
  | n + 1, m, h, e => by
    show m ≤ cN f n + _
    by_cases c : m ≤ n
    · have := cN_full n m c e; omega
    · have := cN_full n n (Nat.le_refl n) (fun i hi => e i (by omega))
      rw [e n (by omega)]; simp; omega
abbrev In (n : Int) (x : Int32) : Prop := 0 ≤ x.toInt ∧ x.toInt < n
theorem neg_i {x : Int32} : x < 0 ↔ x.toInt < 0 := by rw [lt_i]; exact Iff.rfl
theorem nneg {x : Int32} (h : 0 ≤ x.toInt) : ¬ x < 0 := by rw [neg_i]; omega
theorem nneg' {x : Int32} (h : ¬ x < 0) : 0 ≤ x.toInt := by rw [neg_i] at h; omega
theorem s1 {i : Int32} (h : 0 ≤ i.toInt ∧ i.toInt < 100000) : (i + 1).toInt = i.toInt + 1 := by
  rw [ad (by show -2147483648 ≤ i.toInt + 1 ∧ i.toInt + 1 < 2147483648; omega)]; rfl
theorem ckn {γ : Type} {n : Int32} {m : Int} {i : Int32} {A : Option γ} (hm : n.toInt = m) (h : In m i) : chk n i A = A := chk_ok (by rw [hm]; exact h)
theorem ltn {x y : Int32} {m : Int} (hm : y.toInt = m) (h : x.toInt < m) : x < y := by rw [lt_i, hm]; exact h
theorem nltn {x y : Int32} {m : Int} (hm : y.toInt = m) (h : ¬ x.toInt < m) : ¬ x < y := by rw [lt_i, hm]; exact h
theorem cN_b (f : Nat → Bool) : ∀ n, cN f n ≤ n
  | 0 => Nat.le_refl 0
  | n + 1 => by
    have := cN_b f n
    show cN f n + _ ≤ n + 1
    split <;> omega
theorem cN_pos {f : Nat → Bool} {j : Nat} (n : Nat) (hj : j < n) (fj : f j = true) : 1 ≤ cN f n := by
  have z : ∀ n, cN (fun _ => false) n = 0 := fun n => by induction n with
    | zero => rfl
    | succ n ih => show cN (fun _ => false) n + _ = 0; rw [ih]; rfl
  have := cN_lt (f := fun _ => false) (g := f) n hj rfl fj (fun _ _ e => by simp at e)
  rw [z] at this; exact this
theorem ni {i n : Nat} (h : i < n) (hn : n ≤ 1000) : In (n : Int) (n32 i) := by
  rw [In, nt i (by omega)]; omega
theorem n32_inj {i j : Nat} (hi : i < 1000) (hj : j < 1000) (e : n32 i = n32 j) : i = j := by
  have := congrArg Int32.toInt e
  rw [nt i (by omega), nt j (by omega)] at this; omega
theorem n32_ne {i j : Nat} (hi : i < 1000) (hj : j < 1000) (h : ¬ i = j) : ¬ n32 i = n32 j := fun e => h (n32_inj hi hj e)
theorem n32_s {i : Nat} (hi : i < 1000) : n32 i + 1 = n32 (i + 1) := eq_i32.mpr (by rw [s1 (by rw [nt i (by omega)]; omega), nt i (by omega), nt (i + 1) (by omega)]; omega)
theorem n32_lt {i j : Nat} (hi : i < 1000) (hj : j < 1000) : n32 i < n32 j ↔ i < j := by rw [lt_i, nt i (by omega), nt j (by omega)]; omega
theorem n32_b {i : Nat} (hi : i < 1000) : 0 ≤ (n32 i).toInt ∧ (n32 i).toInt = i := by rw [nt i (by omega)]; omega
theorem ck32 {γ : Type} {n : Int32} {m i : Nat} {A : Option γ} (hm : n.toInt = m) (h : i < m) (hi : i < 1000) : chk n (n32 i) A = A := chk_ok (by rw [hm, nt i (by omega)]; omega)
theorem n32_add {i j : Nat} (hi : i < 1000) (hj : j < 1000) : n32 i + n32 j = n32 (i + j) := eq_i32.mpr (by rw [ad (by rw [nt i (by omega), nt j (by omega)]; omega), nt i (by omega), nt j (by omega), nt (i + j) (by omega)]; omega)
theorem n32_p {i : Nat} (hi : i < 1000) : n32 (i + 1) - 1 = n32 i := eq_i32.mpr (by rw [sb (by rw [nt (i + 1) (by omega)]; show -2147483648 ≤ ((i + 1 : Nat) : Int) - 1 ∧ ((i + 1 : Nat) : Int) - 1 < 2147483648; omega), nt (i + 1) (by omega), nt i (by omega)]; show ((i + 1 : Nat) : Int) - 1 = _; omega)
theorem n32_mul {i j : Nat} (hi : i < 1000) (hj : j < 100) : n32 i * n32 j = n32 (i * j) := by
  have b : (i * j : Nat) < 100000 := by
    have : i * j ≤ 999 * 99 := Nat.mul_le_mul (by omega) (by omega)
    omega
  refine eq_i32.mpr ?_
  have e : (n32 i).toInt * (n32 j).toInt = ((i * j : Nat) : Int) := by rw [nt i (by omega), nt j (by omega)]; exact (Int.natCast_mul i j).symm
  rw [ml (by rw [e]; omega), e, nt _ b]
theorem n32_d {n : Nat} (h : n < 1000) : n32 (n + 1) + (-1) = n32 n := by
  rw [eq_i32, ad (by rw [nt (n + 1) (by omega)]; show -2147483648 ≤ ((n + 1 : Nat) : Int) + (-1) ∧ ((n + 1 : Nat) : Int) + (-1) < 2147483648; omega), nt (n + 1) (by omega), nt n (by omega)]
  show ((n + 1 : Nat) : Int) + (-1) = n
  omega
theorem n32_e (x : Int32) (h : 0 ≤ x.toInt) : ∃ n : Nat, x = n32 n ∧ (n : Int) = x.toInt := ⟨x.toInt.toNat, (n32_t x h).symm, by omega⟩
abbrev Fn : Type := Int32 → Int32
def up (f : Fn) (i v : Int32) : Fn := fun x => if x = i then v else f x
theorem up_s (f : Fn) (i v : Int32) : up f i v i = v := if_pos rfl
theorem up_o {f : Fn} {i v x : Int32} (h : ¬ x = i) : up f i v x = f x := if_neg h
theorem gA_u (ob : Rec) (k : Nat) (i v : Int32) : gA (sA ob k i v) k = up (gA ob k) i v := funext fun x => by
  rw [gA_sA]; unfold up
  by_cases h : x = i
  · rw [if_pos ⟨rfl, h⟩, if_pos h]
  · rw [if_neg (fun e => h e.2), if_neg h]
theorem gA_n (ob : Rec) {k j : Nat} (h : ¬ j = k) (i v : Int32) : gA (sA ob k i v) j = gA ob j := funext fun x => by rw [gA_sA, if_neg (fun e => h e.1)]
def i2 (x o : Nat) : Int32 := n32 (x * 8 + o)
def i3 (x o s : Nat) : Int32 := n32 (x * 64 + o * 8 + s - 1)
def i5 (o s q : Nat) : Int32 := n32 ((o * 8 + s - 1) * 8 + q)
def i6 (p q o : Nat) : Int32 := n32 (p * 64 + q * 8 + o)
def i7 (x i : Nat) : Int32 := n32 (x * 64 + i)
theorem i1_ne {x y : Nat} (hx : x < 8) (hy : y < 8) (h : ¬ x = y) : ¬ n32 x = n32 y := n32_ne (by omega) (by omega) h
theorem i2_ne {x o y u : Nat} (hx : x < 8) (ho : o < 8) (hy : y < 8) (hu : u < 8) (h : ¬ (x = y ∧ o = u)) : ¬ i2 x o = i2 y u := n32_ne (by omega) (by omega) (by omega)
theorem i3_ne {x o s y u t : Nat} (hx : x < 8) (ho : o < 8) (hs : 1 ≤ s ∧ s ≤ 8) (hy : y < 8) (hu : u < 8) (ht : 1 ≤ t ∧ t ≤ 8) (h : ¬ (x = y ∧ o = u ∧ s = t)) : ¬ i3 x o s = i3 y u t := n32_ne (by omega) (by omega) (by omega)
theorem i5_ne {o s q u t w : Nat} (ho : o < 8) (hs : 1 ≤ s ∧ s ≤ 8) (hq : q < 8) (hu : u < 8) (ht : 1 ≤ t ∧ t ≤ 8) (hw : w < 8) (h : ¬ (o = u ∧ s = t ∧ q = w)) : ¬ i5 o s q = i5 u t w := n32_ne (by omega) (by omega) (by omega)
theorem i6_ne {x o s y u t : Nat} (hx : x < 8) (ho : o < 8) (hs : s < 8) (hy : y < 8) (hu : u < 8) (ht : t < 8) (h : ¬ (x = y ∧ o = u ∧ s = t)) : ¬ i6 x o s = i6 y u t := n32_ne (by omega) (by omega) (by omega)
theorem i7_ne {x i y j : Nat} (hx : x < 8) (hi : i < 64) (hy : y < 8) (hj : j < 64) (h : ¬ (x = y ∧ i = j)) : ¬ i7 x i = i7 y j := n32_ne (by omega) (by omega) (by omega)
def sN (a : Fn) (o : Nat) : Nat := (a (n32 o)).toInt.toNat
def dN (a : Fn) (x o : Nat) : Nat := (a (i2 x o)).toInt.toNat
def tS (a : Fn) (x o s : Nat) : Int32 := a (i3 x o s)
def stN (a : Fn) (o s q : Nat) : Int := (a (i5 o s q)).toInt
def pN (a : Fn) (o s q : Nat) : Nat := (a (i5 o s q)).toInt.toNat
def kwN (a : Fn) (p q o : Nat) : Nat := (a (i6 p q o)).toInt.toNat
def cd (a : Fn) (x i : Nat) : Nat := (a (i7 x i)).toInt.toNat
def cb (a : Fn) (x i o : Nat) : Nat := cN (fun j => decide (cd a x j / 16 = o)) i
def sm (f : Nat → Nat) : Nat → Nat
  | 0 => 0
  | n + 1 => sm f n + f n
theorem sm_c {f g : Nat → Nat} : ∀ n, (∀ i, i < n → f i = g i) → sm f n = sm g n
  | 0, _ => rfl
  | n + 1, h => by
    show sm f n + f n = sm g n + g n
    rw [sm_c n (fun i hi => h i (by omega)), h n (by omega)]
theorem sm_u {f g : Nat → Nat} {j : Nat} : ∀ n, j < n → (∀ i, i < n → ¬ i = j → g i = f i) → sm g n + f j = sm f n + g j
  | 0, h, _ => absurd h (by omega)
  | n + 1, h, e => by
    show sm g n + g n + f j = sm f n + f n + g j
    by_cases c : j = n
    · subst c
      rw [sm_c j (fun i hi => e i (by omega) (by omega))]; omega
    · have := sm_u n (by omega) (fun i hi => e i (by omega))
      rw [e n (by omega) (fun h => c h.symm)]; omega
theorem sm_b {f : Nat → Nat} {c : Nat} : ∀ n, (∀ i, i < n → f i ≤ c) → sm f n ≤ n * c
  | 0, _ => by show 0 ≤ 0 * c; omega
  | n + 1, h => by
    show sm f n + f n ≤ (n + 1) * c
    have h1 := sm_b n (fun i hi => h i (by omega))
    have h2 := h n (by omega)
    rw [Nat.add_mul, Nat.one_mul]; omega
theorem sm_lt {f : Nat → Nat} {c j : Nat} {n : Nat} (hj : j < n) (h : ∀ i, i < n → f i ≤ c) (h' : f j < c) : sm f n < n * c := by
  have h1 := sm_u (f := f) (g := fun i => if i = j then c else f i) n hj (fun i _ e => by simp [e])
  have h2 := sm_b (f := fun i => if i = j then c else f i) (c := c) n (fun i hi => by
    by_cases e : i = j
    · simp [e]
    · simp [e]; exact h i hi)
  simp only [if_true] at h1
  omega
/-- what holds of the nine arrays -/
abbrev DA (n cap : Nat) (a0 a1 a2 a3 a4 a5 a6 a7 a8 : Fn) : Prop := (∀ o, o < n → a0 (n32 o) = n32 (sN a0 o) ∧ sN a0 o ≤ cap) ∧ (∀ p, p < n → a1 (n32 p) = 0 ∨ a1 (n32 p) = 1) ∧ (∀ x o, x < n → o < n → a2 (i2 x o) = n32 (dN a2 x o) ∧ dN a2 x o ≤ sN a0 o) ∧ (∀ x, x < n → dN a2 x x = sN a0 x) ∧ (∀ x o s, x < n → o < n → 1 ≤ s → s ≤ 8 → (tS a3 x o s = 0 ∨ tS a3 x o s = 1 ∨ tS a3 x o s = 2 ∨ tS a3 x o s = 3) ∧ ((tS a3 x o s = 2 ∨ tS a3 x o s = 3) ↔ s ≤ dN a2 x o) ∧ (sN a0 o < s → tS a3 x o s = 0)) ∧ (∀ o s q, o < n → 1 ≤ s → s ≤ 8 → q < n → a5 (i5 o s q) = n32 (pN a5 o s q) ∧ pN a5 o s q ≤ 3 ∧ (sN a0 o < s → pN a5 o s q = 0)) ∧ (∀ p q o, p < n → q < n → o < n → a6 (i6 p q o) = n32 (kwN a6 p q o) ∧ kwN a6 p q o ≤ dN a2 q o ∧ kwN a6 p p o = dN a2 p o) ∧ (∀ x, x < n → a8 (n32 x) = n32 (sN a8 x) ∧ sN a8 x = sm (dN a2 x) n ∧ ∀ o, o < n → cb a7 x (sN a8 x) o = dN a2 x o) ∧ (∀ x i, x < n → i < sN a8 x → a7 (i7 x i) = n32 (cd a7 x i) ∧ cd a7 x i / 16 < n ∧ cd a7 x i % 16 = 1 + cb a7 x i (cd a7 x i / 16) ∧ cd a7 x i % 16 ≤ dN a2 x (cd a7 x i / 16) ∧ ∀ o2, o2 < n → ¬ o2 = cd a7 x i / 16 → stN a4 (cd a7 x i / 16) (cd a7 x i % 16) o2 ≤ cb a7 x i o2) ∧ (∀ q o s, q < n → o < n → 1 ≤ s → s ≤ 8 → tS a3 q o s = 3 → ∀ r, r < n → a1 (n32 r) = 0 → s ≤ dN a2 r o)
theorem DA.sS {n cap : Nat} {a0 a1 a2 a3 a4 a5 a6 a7 a8 : Fn} (h : DA n cap a0 a1 a2 a3 a4 a5 a6 a7 a8) : ∀ o, o < n → a0 (n32 o) = n32 (sN a0 o) ∧ sN a0 o ≤ cap := h.1
theorem DA.sC {n cap : Nat} {a0 a1 a2 a3 a4 a5 a6 a7 a8 : Fn} (h : DA n cap a0 a1 a2 a3 a4 a5 a6 a7 a8) : ∀ p, p < n → a1 (n32 p) = 0 ∨ a1 (n32 p) = 1 := h.2.1
theorem DA.sD {n cap : Nat} {a0 a1 a2 a3 a4 a5 a6 a7 a8 : Fn} (h : DA n cap a0 a1 a2 a3 a4 a5 a6 a7 a8) : ∀ x o, x < n → o < n → a2 (i2 x o) = n32 (dN a2 x o) ∧ dN a2 x o ≤ sN a0 o := h.2.2.1
theorem DA.sO {n cap : Nat} {a0 a1 a2 a3 a4 a5 a6 a7 a8 : Fn} (h : DA n cap a0 a1 a2 a3 a4 a5 a6 a7 a8) : ∀ x, x < n → dN a2 x x = sN a0 x := h.2.2.2.1
theorem DA.sT {n cap : Nat} {a0 a1 a2 a3 a4 a5 a6 a7 a8 : Fn} (h : DA n cap a0 a1 a2 a3 a4 a5 a6 a7 a8) : ∀ x o s, x < n → o < n → 1 ≤ s → s ≤ 8 → (tS a3 x o s = 0 ∨ tS a3 x o s = 1 ∨ tS a3 x o s = 2 ∨ tS a3 x o s = 3) ∧ ((tS a3 x o s = 2 ∨ tS a3 x o s = 3) ↔ s ≤ dN a2 x o) ∧ (sN a0 o < s → tS a3 x o s = 0) := h.2.2.2.2.1
theorem DA.sP {n cap : Nat} {a0 a1 a2 a3 a4 a5 a6 a7 a8 : Fn} (h : DA n cap a0 a1 a2 a3 a4 a5 a6 a7 a8) : ∀ o s q, o < n → 1 ≤ s → s ≤ 8 → q < n → a5 (i5 o s q) = n32 (pN a5 o s q) ∧ pN a5 o s q ≤ 3 ∧ (sN a0 o < s → pN a5 o s q = 0) := h.2.2.2.2.2.1
theorem DA.sK {n cap : Nat} {a0 a1 a2 a3 a4 a5 a6 a7 a8 : Fn} (h : DA n cap a0 a1 a2 a3 a4 a5 a6 a7 a8) : ∀ p q o, p < n → q < n → o < n → a6 (i6 p q o) = n32 (kwN a6 p q o) ∧ kwN a6 p q o ≤ dN a2 q o ∧ kwN a6 p p o = dN a2 p o := h.2.2.2.2.2.2.1
theorem DA.sL {n cap : Nat} {a0 a1 a2 a3 a4 a5 a6 a7 a8 : Fn} (h : DA n cap a0 a1 a2 a3 a4 a5 a6 a7 a8) : ∀ x, x < n → a8 (n32 x) = n32 (sN a8 x) ∧ sN a8 x = sm (dN a2 x) n ∧ ∀ o, o < n → cb a7 x (sN a8 x) o = dN a2 x o := h.2.2.2.2.2.2.2.1
theorem DA.sE {n cap : Nat} {a0 a1 a2 a3 a4 a5 a6 a7 a8 : Fn} (h : DA n cap a0 a1 a2 a3 a4 a5 a6 a7 a8) : ∀ x i, x < n → i < sN a8 x → a7 (i7 x i) = n32 (cd a7 x i) ∧ cd a7 x i / 16 < n ∧ cd a7 x i % 16 = 1 + cb a7 x i (cd a7 x i / 16) ∧ cd a7 x i % 16 ≤ dN a2 x (cd a7 x i / 16) ∧ ∀ o2, o2 < n → ¬ o2 = cd a7 x i / 16 → stN a4 (cd a7 x i / 16) (cd a7 x i % 16) o2 ≤ cb a7 x i o2 := h.2.2.2.2.2.2.2.2.1
theorem DA.sR {n cap : Nat} {a0 a1 a2 a3 a4 a5 a6 a7 a8 : Fn} (h : DA n cap a0 a1 a2 a3 a4 a5 a6 a7 a8) : ∀ q o s, q < n → o < n → 1 ≤ s → s ≤ 8 → tS a3 q o s = 3 → ∀ r, r < n → a1 (n32 r) = 0 → s ≤ dN a2 r o := h.2.2.2.2.2.2.2.2.2
theorem DA_len {n cap : Nat} {a0 a1 a2 a3 a4 a5 a6 a7 a8 : Fn} (h : DA n cap a0 a1 a2 a3 a4 a5 a6 a7 a8) (hn : n ≤ 8) (hc : cap ≤ 8) {x : Nat} (hx : x < n) : sN a8 x ≤ 64 := by
  rw [(h.sL x hx).2.1]
  have := sm_b (f := dN a2 x) (c := 8) n (fun i hi => by have h1 := (h.sD x i hx hi).2; have h2 := (h.sS i hi).2; clear h; omega)
  clear h; omega
theorem DA_len' {n cap : Nat} {a0 a1 a2 a3 a4 a5 a6 a7 a8 : Fn} (h : DA n cap a0 a1 a2 a3 a4 a5 a6 a7 a8) (hn : n ≤ 8) (hc : cap ≤ 8) {x o : Nat} (hx : x < n) (ho : o < n) (hd : dN a2 x o < 8) : sN a8 x < 64 := by
  rw [(h.sL x hx).2.1]
  have := sm_lt (f := dN a2 x) (c := 8) ho (fun i hi => by have h1 := (h.sD x i hx hi).2; have h2 := (h.sS i hi).2; clear h; omega) hd
  clear h; omega
/-- a message delivered: (o, s) at x, with s the next; a broadcast too -/
theorem DA_dl {n cap : Nat} {a0 a1 a2 a3 a4 a5 a6 a7 a8 b0 b4 b5 : Fn} (h : DA n cap a0 a1 a2 a3 a4 a5 a6 a7 a8) (hn : n ≤ 8) (hc : cap ≤ 8) {x o s : Nat} (hx : x < n) (ho : o < n) (hs : s = dN a2 x o + 1) (hS : s ≤ sN b0 o)
    (h0 : ∀ u, u < n → b0 (n32 u) = n32 (sN b0 u) ∧ sN b0 u ≤ cap ∧ sN a0 u ≤ sN b0 u) (hO : ∀ y, y < n → ¬ (y = x ∧ o = x) → sN b0 y = sN a0 y) (hO' : x = o → sN b0 x = s)
    (h4 : ∀ u t q, u < n → 1 ≤ t → t ≤ sN a0 u → q < n → stN b4 u t q = stN a4 u t q) (h4' : ∀ q, q < n → ¬ q = o → stN b4 o s q ≤ dN a2 x q)
    (h5 : ∀ u t q, u < n → 1 ≤ t → t ≤ 8 → q < n → b5 (i5 u t q) = n32 (pN b5 u t q) ∧ pN b5 u t q ≤ 3 ∧ (sN b0 u < t → pN b5 u t q = 0)) :
    DA n cap b0 a1 (up a2 (i2 x o) (n32 s)) (up a3 (i3 x o s) 2) b4 b5 (up a6 (i6 x x o) (n32 s)) (up a7 (i7 x (sN a8 x)) (n32 (o * 16 + s))) (up a8 (n32 x) (n32 (sN a8 x + 1))) := by
  have s8 : 1 ≤ s ∧ s ≤ 8 := by have := (h0 o ho).2.1; clear h; omega
  have l64 := DA_len' h hn hc hx ho (show dN a2 x o < 8 by clear h; omega)
  have x8 : x < 8 := by clear h; omega
  have o8 : o < 8 := by clear h; omega
  have d1 : dN (up a2 (i2 x o) (n32 s)) x o = s := by unfold dN; rw [up_s, nt s (by clear h; omega)]; rfl
  have d2 : ∀ y u, y < n → u < n → ¬ (y = x ∧ u = o) → dN (up a2 (i2 x o) (n32 s)) y u = dN a2 y u := fun y u hy hu ne => by unfold dN; rw [up_o (i2_ne (by clear h; omega) (by clear h; omega) x8 o8 ne)]
  have d3 : ∀ y u, y < n → u < n → dN a2 y u ≤ dN (up a2 (i2 x o) (n32 s)) y u := fun y u hy hu => by
    by_cases e : y = x ∧ u = o
    · rw [e.1, e.2, d1]; clear h; omega
    · rw [d2 y u hy hu e]; exact Nat.le_refl _
  have l1 : sN (up a8 (n32 x) (n32 (sN a8 x + 1))) x = sN a8 x + 1 := by
    show ((up a8 (n32 x) (n32 (sN a8 x + 1))) (n32 x)).toInt.toNat = _
    rw [up_s, nt _ (by clear h; omega)]; rfl
  have l2 : ∀ y, y < n → ¬ y = x → sN (up a8 (n32 x) (n32 (sN a8 x + 1))) y = sN a8 y := fun y hy ne => by
    show ((up a8 (n32 x) (n32 (sN a8 x + 1))) (n32 y)).toInt.toNat = _
    rw [up_o (i1_ne (by clear h; omega) x8 ne)]; rfl
  have c1 : cd (up a7 (i7 x (sN a8 x)) (n32 (o * 16 + s))) x (sN a8 x) = o * 16 + s := by unfold cd; rw [up_s, nt _ (by clear h; omega)]; rfl
  have c2 : ∀ y i, y < n → i < 64 → ¬ (y = x ∧ i = sN a8 x) → (up a7 (i7 x (sN a8 x)) (n32 (o * 16 + s))) (i7 y i) = a7 (i7 y i) := fun y i hy hi ne => up_o (i7_ne (by clear h; omega) hi x8 l64 ne)
  have c3 : ∀ y i, y < n → i < 64 → ¬ (y = x ∧ i = sN a8 x) → cd (up a7 (i7 x (sN a8 x)) (n32 (o * 16 + s))) y i = cd a7 y i := fun y i hy hi ne => by unfold cd; rw [c2 y i hy hi ne]
  have cb1 : ∀ y i u, y < n → i ≤ sN a8 y → i ≤ 64 → cb (up a7 (i7 x (sN a8 x)) (n32 (o * 16 + s))) y i u = cb a7 y i u := fun y i u hy hi hi' => by
    unfold cb
    apply cN_eq
    intro j hj
    rw [c3 y j hy (by clear h; omega) (fun e => by rw [e.1] at hi; clear h; omega)]
  refine ⟨fun u hu => ⟨(h0 u hu).1, (h0 u hu).2.1⟩, h.sC, fun y u hy hu => ?_, fun y hy => ?_, fun y u t hy hu t1 t2 => ?_, h5, fun p q u hp hq hu => ?_, fun y hy => ?_, fun y i hy hi => ?_, fun q u t hq hu t1 t2 e r hr hr1 => ?_⟩
  · by_cases e : y = x ∧ u = o
    · rw [e.1, e.2, d1, up_s]; exact ⟨rfl, hS⟩
    · rw [d2 y u hy hu e, up_o (i2_ne (by clear h; omega) (by clear h; omega) x8 o8 e)]
      have := h.sD y u hy hu
      exact ⟨this.1, Nat.le_trans this.2 (h0 u hu).2.2⟩
  · by_cases e : y = x ∧ y = o
    · have exo : x = o := e.1.symm.trans e.2
      rw [e.1, hO' exo]
      rw [← exo] at d1 ⊢; exact d1
    · rw [d2 y y hy hy e, h.sO y hy]
      exact (hO y hy (fun z => e ⟨z.1, z.1.trans z.2.symm⟩)).symm
  · by_cases e : y = x ∧ u = o ∧ t = s
    · obtain ⟨e1, e2, e3⟩ := e
      have tt : tS (up a3 (i3 x o s) 2) x o s = 2 := up_s _ _ _
      rw [e1, e2, e3, tt, d1]
      exact ⟨Or.inr (Or.inr (Or.inl rfl)), ⟨fun _ => Nat.le_refl _, fun _ => Or.inl rfl⟩, fun z => by clear h; omega⟩
    · have tt : tS (up a3 (i3 x o s) 2) y u t = tS a3 y u t := up_o (i3_ne (by clear h; omega) (by clear h; omega) ⟨t1, t2⟩ x8 o8 s8 e)
      have hh := h.sT y u t hy hu t1 t2
      rw [tt]
      refine ⟨hh.1, ?_, fun z => hh.2.2 (Nat.lt_of_le_of_lt (h0 u hu).2.2 z)⟩
      by_cases e' : y = x ∧ u = o
      · obtain ⟨e1, e2⟩ := e'
        have e3 : ¬ t = s := fun z => e ⟨e1, e2, z⟩
        rw [e1, e2] at hh ⊢
        rw [d1, hh.2.1]; clear h hh; omega
      · rw [d2 y u hy hu e']; exact hh.2.1
  · have kk : ∀ p q u, p < n → q < n → u < n → ¬ (p = x ∧ q = x ∧ u = o) → (up a6 (i6 x x o) (n32 s)) (i6 p q u) = a6 (i6 p q u) := fun p q u hp hq hu ne => up_o (i6_ne (by clear h; omega) (by clear h; omega) (by clear h; omega) x8 x8 o8 ne)
    have k1 : kwN (up a6 (i6 x x o) (n32 s)) x x o = s := by unfold kwN; rw [up_s, nt s (by clear h; omega)]; rfl
    have hh := h.sK p q u hp hq hu
    refine ⟨?_, ?_, ?_⟩
    · by_cases e : p = x ∧ q = x ∧ u = o
      · rw [e.1, e.2.1, e.2.2, k1, up_s]
      · unfold kwN; rw [kk p q u hp hq hu e]; exact hh.1
    · by_cases e : p = x ∧ q = x ∧ u = o
      · rw [e.1, e.2.1, e.2.2, k1, d1]; exact Nat.le_refl _
      · have : kwN (up a6 (i6 x x o) (n32 s)) p q u = kwN a6 p q u := by unfold kwN; rw [kk p q u hp hq hu e]
        rw [this]; exact Nat.le_trans hh.2.1 (d3 q u hq hu)
    · by_cases e : p = x ∧ u = o
      · rw [e.1, e.2, k1, d1]
      · have : kwN (up a6 (i6 x x o) (n32 s)) p p u = kwN a6 p p u := by unfold kwN; rw [kk p p u hp hp hu (fun z => e ⟨z.1, z.2.2⟩)]
        rw [this, d2 p u hp hu e]; exact hh.2.2
  · by_cases e : y = x
    · rw [e, l1, up_s]
      have hl := h.sL x hx
      refine ⟨rfl, ?_, fun u hu => ?_⟩
      · have := sm_u (f := dN a2 x) (g := dN (up a2 (i2 x o) (n32 s)) x) n ho (fun i hi ne => d2 x i hx hi (fun z => ne z.2))
        rw [d1] at this
        rw [hl.2.1]; clear h; omega
      · show cb _ x (sN a8 x) u + (if decide (cd _ x (sN a8 x) / 16 = u) = true then 1 else 0) = _
        rw [cb1 x (sN a8 x) u hx (Nat.le_refl _) (by clear h; omega), hl.2.2 u hu, c1, show (o * 16 + s) / 16 = o by clear h; omega]
        by_cases z : o = u
        · rw [decide_eq_true z, if_pos rfl, ← z, d1]; clear h; omega
        · rw [decide_eq_false z, if_neg (by decide), d2 x u hx hu (fun w => z w.2.symm)]; rfl
    · rw [l2 y hy e, up_o (i1_ne (by clear h; omega) x8 e)]
      have hl := h.sL y hy
      have l64' := DA_len h hn hc hy
      refine ⟨hl.1, ?_, fun u hu => ?_⟩
      · rw [hl.2.1]; exact sm_c n (fun i hi => (d2 y i hy hi (fun z => e z.1)).symm)
      · rw [cb1 y _ u hy (Nat.le_refl _) l64', d2 y u hy hu (fun z => e z.1)]; exact hl.2.2 u hu
  · by_cases e : y = x ∧ i = sN a8 x
    · obtain ⟨e1, e2⟩ := e
      rw [e1, e2, c1, up_s, show (o * 16 + s) / 16 = o by clear h; omega, show (o * 16 + s) % 16 = s by clear h; omega]
      refine ⟨rfl, ho, ?_, by rw [d1]; exact Nat.le_refl _, fun u hu ne => ?_⟩
      · rw [cb1 x _ o hx (Nat.le_refl _) (by clear h; omega), (h.sL x hx).2.2 o ho]; clear h; omega
      · rw [cb1 x _ u hx (Nat.le_refl _) (by clear h; omega), (h.sL x hx).2.2 u hu]; exact h4' u hu ne
    · have il : i < sN a8 y := by
        by_cases z : y = x
        · rw [z, l1] at hi; rw [z]
          have : ¬ i = sN a8 x := fun w => e ⟨z, w⟩
          clear h; omega
        · rw [l2 y hy z] at hi; exact hi
      have l64' := DA_len h hn hc hy
      have hh := h.sE y i hy il
      have i64 : i < 64 := by clear h hh; omega
      rw [c2 y i hy i64 e, c3 y i hy i64 e, cb1 y i _ hy (by clear h hh; omega) (by clear h hh; omega)]
      have hd := (h.sD y (cd a7 y i / 16) hy hh.2.1).2
      refine ⟨hh.1, hh.2.1, hh.2.2.1, Nat.le_trans hh.2.2.2.1 (d3 y _ hy hh.2.1), fun u hu ne => ?_⟩
      rw [cb1 y i _ hy (by clear h hh; omega) (by clear h hh; omega), h4 _ _ u hh.2.1 (by have := hh.2.2.1; clear h hh; omega) (Nat.le_trans hh.2.2.2.1 hd) hu]
      exact hh.2.2.2.2 u hu ne
  · have e' : tS a3 q u t = 3 := by
      by_cases z : q = x ∧ u = o ∧ t = s
      · obtain ⟨z1, z2, z3⟩ := z
        rw [z1, z2, z3] at e
        have tt : tS (up a3 (i3 x o s) 2) x o s = 2 := up_s _ _ _
        rw [tt] at e; exact absurd e (by decide)
      · have tt : tS (up a3 (i3 x o s) 2) q u t = tS a3 q u t := up_o (i3_ne (by clear h; omega) (by clear h; omega) ⟨t1, t2⟩ x8 o8 s8 z)
        rw [tt] at e; exact e
    exact Nat.le_trans (h.sR q u t hq hu t1 t2 e' r hr hr1) (d3 r u hr hu)
abbrev DI (ob : Rec) (n cap : Nat) : Prop := gI ob 0 = n32 n ∧ gI ob 1 = n32 cap ∧ DA n cap (gA ob 0) (gA ob 1) (gA ob 2) (gA ob 3) (gA ob 4) (gA ob 5) (gA ob 6) (gA ob 7) (gA ob 8)
theorem m8 {x : Nat} (h : x < 100) : n32 x * 8 = n32 (x * 8) := n32_mul (j := 8) (by omega) (by omega)
theorem m64 {x : Nat} (h : x < 10) : n32 x * 64 = n32 (x * 64) := n32_mul (j := 64) (by omega) (by omega)
theorem m16 {x : Nat} (h : x < 10) : n32 x * 16 = n32 (x * 16) := n32_mul (j := 16) (by omega) (by omega)
theorem e2 {x o : Nat} (hx : x < 8) (ho : o < 8) : n32 x * 8 + n32 o = i2 x o := by rw [m8 (by omega), n32_add (by omega) (by omega)]; rfl
theorem e3 {x o s : Nat} (hx : x < 8) (ho : o < 8) (h1 : 1 ≤ s) (h2 : s ≤ 9) : n32 x * 64 + n32 o * 8 + n32 s - 1 = i3 x o s := by
  rw [m64 (by omega), m8 (by omega), n32_add (by omega) (by omega), n32_add (by omega) (by omega), show x * 64 + o * 8 + s = (x * 64 + o * 8 + s - 1) + 1 by omega, n32_p (by omega)]
  rfl
theorem em {o s : Nat} (ho : o < 8) (h1 : 1 ≤ s) (h2 : s ≤ 8) : n32 o * 8 + n32 s - 1 = n32 (o * 8 + s - 1) := by
  rw [m8 (by omega), n32_add (by omega) (by omega), show o * 8 + s = (o * 8 + s - 1) + 1 by omega, n32_p (by omega)]; rfl
theorem e5' {o s q : Nat} (ho : o < 8) (h1 : 1 ≤ s) (h2 : s ≤ 8) (hq : q < 8) : n32 (o * 8 + s - 1) * 8 + n32 q = i5 o s q := by rw [m8 (by omega), n32_add (by omega) (by omega)]; rfl
theorem e5 {o s q : Nat} (ho : o < 8) (h1 : 1 ≤ s) (h2 : s ≤ 8) (hq : q < 8) : (n32 o * 8 + n32 s - 1) * 8 + n32 q = i5 o s q := by rw [em ho h1 h2, e5' ho h1 h2 hq]
theorem e6 {p q o : Nat} (hp : p < 8) (hq : q < 8) (ho : o < 8) : n32 p * 64 + n32 q * 8 + n32 o = i6 p q o := by
  rw [m64 (by omega), m8 (by omega), n32_add (by omega) (by omega), n32_add (by omega) (by omega)]; rfl
theorem e7 {x i : Nat} (hx : x < 8) (hi : i < 64) : n32 x * 64 + n32 i = i7 x i := by rw [m64 (by omega), n32_add (by omega) (by omega)]; rfl
theorem k2 {γ : Type} {x o : Nat} {A : Option γ} (hx : x < 8) (ho : o < 8) : chk 64 (i2 x o) A = A := ck32 (m := 64) rfl (by omega) (by omega)
theorem k3 {γ : Type} {x o s : Nat} {A : Option γ} (hx : x < 8) (ho : o < 8) (h1 : 1 ≤ s) (h2 : s ≤ 8) : chk 512 (i3 x o s) A = A := ck32 (m := 512) rfl (by omega) (by omega)
theorem k5 {γ : Type} {o s q : Nat} {A : Option γ} (ho : o < 8) (h1 : 1 ≤ s) (h2 : s ≤ 8) (hq : q < 8) : chk 512 (i5 o s q) A = A := ck32 (m := 512) rfl (by omega) (by omega)
theorem k6 {γ : Type} {p q o : Nat} {A : Option γ} (hp : p < 8) (hq : q < 8) (ho : o < 8) : chk 512 (i6 p q o) A = A := ck32 (m := 512) rfl (by omega) (by omega)
theorem k7 {γ : Type} {x i : Nat} {A : Option γ} (hx : x < 8) (hi : i < 64) : chk 512 (i7 x i) A = A := ck32 (m := 512) rfl (by omega) (by omega)
theorem kp {γ : Type} {x : Nat} {A : Option γ} (hx : x < 8) : chk 8 (n32 x) A = A := ck32 (m := 8) rfl (by omega) (by omega)
theorem vp_e {ob : Rec} {n p : Nat} (h : gI ob 0 = n32 n) (hn : n ≤ 8) (hp : p < 100) : X_validProc ob (n32 p) = some (if p < n then 1 else 0) := by
  unfold X_validProc; rw [if_neg (nneg (n32_b (by omega)).1), h]
  by_cases c : p < n
  · rw [if_pos ((n32_lt (by omega) (by omega)).mpr c), if_pos c]
  · rw [if_neg (fun x => c ((n32_lt (by omega) (by omega)).mp x)), if_neg c]
theorem ex_e {ob : Rec} {n cap o s : Nat} (h : DI ob n cap) (hn : n ≤ 8) (hc : cap ≤ 8) (ho : o < 100) (hs : s < 100) : X_exists ob (n32 o) (n32 s) = some (if o < n ∧ 1 ≤ s ∧ s ≤ sN (gA ob 0) o then 1 else 0) := by
  unfold X_exists; rw [if_neg (nneg (n32_b (by clear h; omega)).1), h.1]
  by_cases c : o < n
  · have hS := h.2.2.sS o c
    rw [if_pos ((n32_lt (by clear h; omega) (by clear h; omega)).mpr c)]
    by_cases d : s < 1
    · rw [if_pos (by rw [lt_i, nt s (by clear h; omega)]; show (s : Int) < 1; clear h; omega), if_neg (fun x => by clear h; omega)]
    · rw [if_neg (by rw [lt_i, nt s (by clear h; omega)]; show ¬ (s : Int) < 1; clear h; omega), kp (by clear h; omega), hS.1]
      have hS2 := hS.2
      by_cases e : sN (gA ob 0) o < s
      · rw [if_pos ((n32_lt (by clear h; omega) (by clear h; omega)).mpr e), if_neg (fun x => by clear h; omega)]
      · rw [if_neg (fun x => e ((n32_lt (by clear h; omega) (by clear h; omega)).mp x)), if_pos ⟨c, by clear h; omega, by clear h; omega⟩]
  · rw [if_neg (fun x => c ((n32_lt (by clear h; omega) (by clear h; omega)).mp x)), if_neg (fun x => c x.1)]
theorem ex_y {ob : Rec} {n cap o s : Nat} (h : DI ob n cap) (hn : n ≤ 8) (hc : cap ≤ 8) (ho : o < n) (h1 : 1 ≤ s) (h2 : s ≤ sN (gA ob 0) o) : X_exists ob (n32 o) (n32 s) = some 1 := by
  have sS := (h.2.2.sS o ho).2
  rw [ex_e h hn hc (by clear h; omega) (by clear h; omega), if_pos ⟨ho, h1, h2⟩]
theorem ex_n {ob : Rec} {n cap o s : Nat} (h : DI ob n cap) (hn : n ≤ 8) (hc : cap ≤ 8) (ho : o < 100) (hs : s < 100) (hq : ¬ (o < n ∧ 1 ≤ s ∧ s ≤ sN (gA ob 0) o)) : X_exists ob (n32 o) (n32 s) = some 0 := by
  rw [ex_e h hn hc ho hs, if_neg hq]
def dlr (ob : Rec) (x o s d l : Nat) : Rec := sA (sA (sA (sA (sA ob 3 (i3 x o s) 2) 2 (i2 x o) (n32 (d + 1))) 7 (i7 x l) (n32 (o * 16 + s))) 8 (n32 x) (n32 (l + 1))) 6 (i6 x x o) (n32 (d + 1))
theorem dlr_n (ob : Rec) (x o s d l : Nat) {j : Nat} (h : ¬ j = 3 ∧ ¬ j = 2 ∧ ¬ j = 7 ∧ ¬ j = 8 ∧ ¬ j = 6) : gA (dlr ob x o s d l) j = gA ob j := by
  unfold dlr; rw [gA_n _ h.2.2.2.2, gA_n _ h.2.2.2.1, gA_n _ h.2.2.1, gA_n _ h.2.1, gA_n _ h.1]
theorem dlr_2 (ob : Rec) (x o s d l : Nat) : gA (dlr ob x o s d l) 2 = up (gA ob 2) (i2 x o) (n32 (d + 1)) := by
  unfold dlr; rw [gA_n _ (by decide), gA_n _ (by decide), gA_n _ (by decide), gA_u, gA_n _ (by decide)]
theorem dlr_3 (ob : Rec) (x o s d l : Nat) : gA (dlr ob x o s d l) 3 = up (gA ob 3) (i3 x o s) 2 := by
  unfold dlr; rw [gA_n _ (by decide), gA_n _ (by decide), gA_n _ (by decide), gA_n _ (by decide), gA_u]
theorem dlr_6 (ob : Rec) (x o s d l : Nat) : gA (dlr ob x o s d l) 6 = up (gA ob 6) (i6 x x o) (n32 (d + 1)) := by
  unfold dlr; rw [gA_u, gA_n _ (by decide), gA_n _ (by decide), gA_n _ (by decide), gA_n _ (by decide)]
theorem dlr_7 (ob : Rec) (x o s d l : Nat) : gA (dlr ob x o s d l) 7 = up (gA ob 7) (i7 x l) (n32 (o * 16 + s)) := by
  unfold dlr; rw [gA_n _ (by decide), gA_n _ (by decide), gA_u, gA_n _ (by decide), gA_n _ (by decide)]
theorem dlr_8 (ob : Rec) (x o s d l : Nat) : gA (dlr ob x o s d l) 8 = up (gA ob 8) (n32 x) (n32 (l + 1)) := by
  unfold dlr; rw [gA_n _ (by decide), gA_u, gA_n _ (by decide), gA_n _ (by decide), gA_n _ (by decide)]
theorem dlv_e {ob : Rec} {x o s d l : Nat} (hx : x < 8) (ho : o < 8) (h1 : 1 ≤ s) (h2 : s ≤ 8) (hd : gA ob 2 (i2 x o) = n32 d) (hd8 : d < 100) (hl : gA ob 8 (n32 x) = n32 l) (hl8 : l < 64) : X_deliverAt ob (n32 x) (n32 o) (n32 s) = some (dlr ob x o s d l) := by
  have l0 : ¬ gA ob 8 (n32 x) < 0 := by rw [hl]; exact nneg (n32_b (by omega)).1
  have l6 : gA ob 8 (n32 x) < 64 := by rw [hl, lt_i, nt l (by omega)]; show (l : Int) < 64; omega
  unfold X_deliverAt X_stateIndex
  rw [Option.bind_some, e3 hx ho h1 (by omega), k3 hx ho h1 h2, e2 hx ho, k2 hx ho, k2 hx ho, kp hx, if_neg l0, if_pos l6, hl, e7 hx hl8, k7 hx hl8, kp hx, hd, n32_s (by omega), n32_s (by omega), m16 (by omega), n32_add (by omega) (by omega)]
  unfold X_deliverAt_b89 X_knownIndex
  rw [Option.bind_some, e6 hx hx ho, e2 hx ho, k2 hx ho, k6 hx hx ho, gA_n _ (by decide), gA_n _ (by decide), gA_u, up_s]
  rfl
/-- what a delivery leaves -/
abbrev CR (ob r : Rec) (x c : Nat) : Prop := (∀ j, gI r j = gI ob j) ∧ (gA r 0 = gA ob 0 ∧ gA r 1 = gA ob 1 ∧ gA r 4 = gA ob 4 ∧ gA r 5 = gA ob 5) ∧ (∀ y u t, y < 8 → u < 8 → 1 ≤ t → t ≤ 8 → (tS (gA r 3) y u t = 3 ↔ tS (gA ob 3) y u t = 3)) ∧ (sN (gA r 8) x = sN (gA ob 8) x + c) ∧ (∀ y, y < 8 → ¬ y = x → sN (gA r 8) y = sN (gA ob 8) y)
theorem CR.gi {ob r : Rec} {x c : Nat} (h : CR ob r x c) : ∀ j, gI r j = gI ob j := h.1
theorem CR.ga {ob r : Rec} {x c : Nat} (h : CR ob r x c) : gA r 0 = gA ob 0 ∧ gA r 1 = gA ob 1 ∧ gA r 4 = gA ob 4 ∧ gA r 5 = gA ob 5 := h.2.1
theorem CR.t3 {ob r : Rec} {x c : Nat} (h : CR ob r x c) : ∀ y u t, y < 8 → u < 8 → 1 ≤ t → t ≤ 8 → (tS (gA r 3) y u t = 3 ↔ tS (gA ob 3) y u t = 3) := h.2.2.1
theorem CR.ln {ob r : Rec} {x c : Nat} (h : CR ob r x c) : sN (gA r 8) x = sN (gA ob 8) x + c := h.2.2.2.1
theorem CR.lo {ob r : Rec} {x c : Nat} (h : CR ob r x c) : ∀ y, y < 8 → ¬ y = x → sN (gA r 8) y = sN (gA ob 8) y := h.2.2.2.2
theorem CR.rf (ob : Rec) (x : Nat) : CR ob ob x 0 := ⟨fun _ => rfl, ⟨rfl, rfl, rfl, rfl⟩, fun _ _ _ _ _ _ _ => Iff.rfl, rfl, fun _ _ _ => rfl⟩
theorem CR.tr {a b c : Rec} {x i j : Nat} (h : CR a b x i) (g : CR b c x j) : CR a c x (i + j) := by
  obtain ⟨h1, ⟨h2, h3, h4, h5⟩, h6, h7, h8⟩ := h
  obtain ⟨g1, ⟨g2, g3, g4, g5⟩, g6, g7, g8⟩ := g
  exact ⟨fun k => (g1 k).trans (h1 k), ⟨g2.trans h2, g3.trans h3, g4.trans h4, g5.trans h5⟩, fun y u t a b c d => (g6 y u t a b c d).trans (h6 y u t a b c d), by rw [g7, h7, Nat.add_assoc], fun y a b => (g8 y a b).trans (h8 y a b)⟩
theorem dl_ok {ob : Rec} {n cap x o : Nat} (h : DI ob n cap) (hn : n ≤ 8) (hc : cap ≤ 8) (hx : x < n) (ho : o < n) (hS : dN (gA ob 2) x o + 1 ≤ sN (gA ob 0) o) (h4 : ∀ q, q < n → ¬ q = o → stN (gA ob 4) o (dN (gA ob 2) x o + 1) q ≤ dN (gA ob 2) x q) :
    ∃ r, X_deliverAt ob (n32 x) (n32 o) (n32 (dN (gA ob 2) x o + 1)) = some r ∧ DI r n cap ∧ CR ob r x 1 := by
  obtain ⟨g0, g1, da⟩ := h
  have sc := (da.sS o ho).2
  have l64 := DA_len' da hn hc hx ho (show dN (gA ob 2) x o < 8 by clear da; omega)
  have hd := (da.sD x o hx ho).1
  have hl := (da.sL x hx).1
  have x8 : x < 8 := by clear da; omega
  have o8 : o < 8 := by clear da; omega
  refine ⟨_, dlv_e x8 o8 (by clear da; omega) (by clear da; omega) hd (by clear da; omega) hl l64, ⟨g0, g1, ?_⟩, ⟨fun _ => rfl, ⟨dlr_n _ _ _ _ _ _ (by decide), dlr_n _ _ _ _ _ _ (by decide), dlr_n _ _ _ _ _ _ (by decide), dlr_n _ _ _ _ _ _ (by decide)⟩, fun y u t hy hu t1 t2 => ?_, ?_, fun y hy ne => ?_⟩⟩
  · rw [dlr_n _ _ _ _ _ _ (show ¬ (0 = 3) ∧ ¬ (0 = 2) ∧ ¬ (0 = 7) ∧ ¬ (0 = 8) ∧ ¬ (0 = 6) by decide), dlr_n _ _ _ _ _ _ (show ¬ (1 = 3) ∧ ¬ (1 = 2) ∧ ¬ (1 = 7) ∧ ¬ (1 = 8) ∧ ¬ (1 = 6) by decide), dlr_2, dlr_3, dlr_n _ _ _ _ _ _ (show ¬ (4 = 3) ∧ ¬ (4 = 2) ∧ ¬ (4 = 7) ∧ ¬ (4 = 8) ∧ ¬ (4 = 6) by decide), dlr_n _ _ _ _ _ _ (show ¬ (5 = 3) ∧ ¬ (5 = 2) ∧ ¬ (5 = 7) ∧ ¬ (5 = 8) ∧ ¬ (5 = 6) by decide), dlr_6, dlr_7, dlr_8]
    exact DA_dl da hn hc hx ho rfl hS (fun u hu => ⟨(da.sS u hu).1, (da.sS u hu).2, Nat.le_refl _⟩) (fun _ _ _ => rfl) (fun e => by rw [← e] at hS ⊢; have := da.sO x hx; clear da; omega) (fun _ _ _ _ _ _ _ => rfl) h4 da.sP
  · rw [dlr_3]
    by_cases e : y = x ∧ u = o ∧ t = dN (gA ob 2) x o + 1
    · obtain ⟨q1, q2, q3⟩ := e
      rw [q1, q2, q3]
      have tt : tS (up (gA ob 3) (i3 x o (dN (gA ob 2) x o + 1)) 2) x o (dN (gA ob 2) x o + 1) = 2 := up_s _ _ _
      rw [tt]
      have hh := (da.sT x o (dN (gA ob 2) x o + 1) hx ho (by clear da; omega) (by clear da; omega)).2.1
      exact ⟨fun z => absurd z (by decide), fun z => absurd (hh.mp (Or.inr z)) (by clear da hh; omega)⟩
    · have tt : tS (up (gA ob 3) (i3 x o (dN (gA ob 2) x o + 1)) 2) y u t = tS (gA ob 3) y u t := up_o (i3_ne hy hu ⟨t1, t2⟩ x8 o8 (by clear da; omega) e)
      rw [tt]
  · rw [dlr_8]
    show (up (gA ob 8) (n32 x) (n32 (sN (gA ob 8) x + 1)) (n32 x)).toInt.toNat = _
    rw [up_s, nt _ (by clear da; omega)]; rfl
  · rw [dlr_8]
    show (up (gA ob 8) (n32 x) (n32 (sN (gA ob 8) x + 1)) (n32 y)).toInt.toNat = _
    rw [up_o (i1_ne hy x8 ne)]; rfl
/-- a message that can be delivered -/
theorem isd_l (NF : Nat) {ob : Rec} {n cap x o s : Nat} (h : DI ob n cap) (hn : n ≤ 8) (hc : cap ≤ 8) (hx : x < n) (ho : o < n) (h1 : 1 ≤ s) (h2 : s ≤ 8) : ∀ (m fuel i : Nat), m < fuel → i ≤ n → n - i ≤ m → (∀ q, q < i → ¬ q = o → stN (gA ob 4) o s q ≤ dN (gA ob 2) x q) →
    X_isDeliverable_l63 NF ob fuel (n32 x) (n32 o) (n32 (o * 8 + s - 1)) (n32 i) = some 0 ∨ (X_isDeliverable_l63 NF ob fuel (n32 x) (n32 o) (n32 (o * 8 + s - 1)) (n32 i) = some 1 ∧ ∀ q, q < n → ¬ q = o → stN (gA ob 4) o s q ≤ dN (gA ob 2) x q) := by
  intro m
  induction m with
  | zero =>
    intro fuel i hf hi hm hq
    obtain ⟨g, rfl⟩ : ∃ g, fuel = g + 1 := ⟨fuel - 1, by clear h; omega⟩
    have e : i = n := by clear h; omega
    right
    refine ⟨?_, by rw [← e]; exact hq⟩
    show X_isDeliverable_w63 NF ob _ _ _ _ _ = _
    unfold X_isDeliverable_w63
    rw [h.1, if_neg (fun z => by rw [n32_lt (by clear h; omega) (by clear h; omega)] at z; clear h; omega)]
  | succ m ih =>
    intro fuel i hf hi hm hq
    obtain ⟨g, rfl⟩ : ∃ g, fuel = g + 1 := ⟨fuel - 1, by clear h; omega⟩
    show X_isDeliverable_w63 NF ob (X_isDeliverable_l63 NF ob g) _ _ _ _ = _ ∨ (X_isDeliverable_w63 NF ob (X_isDeliverable_l63 NF ob g) _ _ _ _ = _ ∧ _)
    unfold X_isDeliverable_w63
    rw [h.1]
    by_cases e : i = n
    · right
      rw [if_neg (fun z => by rw [n32_lt (by clear h; omega) (by clear h; omega)] at z; clear h; omega)]
      exact ⟨rfl, by rw [← e]; exact hq⟩
    · rw [if_pos ((n32_lt (by clear h; omega) (by clear h; omega)).mpr (by clear h; omega)), n32_s (by clear h; omega)]
      have nx := fun hq' => ih g (i + 1) (by clear h; omega) (by clear h; omega) (by clear h; omega) hq'
      by_cases c : i = o
      · rw [if_pos (by rw [c])]
        exact nx (fun q z w => hq q (by clear h; omega) w)
      · rw [if_neg (i1_ne (by clear h; omega) (by clear h; omega) c), e5' (by clear h; omega) h1 h2 (by clear h; omega), k5 (by clear h; omega) h1 h2 (by clear h; omega), e2 (by clear h; omega) (by clear h; omega), k2 (by clear h; omega) (by clear h; omega)]
        have hd := (h.2.2.sD x i hx (by clear h; omega)).1
        have hb := (h.2.2.sD x i hx (by clear h; omega)).2
        by_cases d : gA ob 2 (i2 x i) < gA ob 4 (i5 o s i)
        · left; rw [if_pos d]
        · rw [if_neg d]
          refine nx (fun q z w => ?_)
          by_cases e' : q = i
          · rw [e']
            have sS := (h.2.2.sS i (by clear h; omega)).2
            rw [lt_i, hd, nt _ (by clear h; omega)] at d
            unfold stN
            clear h; omega
          · exact hq q (by clear h; omega) w
theorem isd_e (NF : Nat) (hNF : 200 < NF) {ob : Rec} {n cap x o : Nat} (h : DI ob n cap) (hn : n ≤ 8) (hc : cap ≤ 8) (hx : x < n) (ho : o < n) :
    X_isDeliverable NF ob (n32 x) (n32 o) (n32 (dN (gA ob 2) x o + 1)) = some 0 ∨ (X_isDeliverable NF ob (n32 x) (n32 o) (n32 (dN (gA ob 2) x o + 1)) = some 1 ∧ dN (gA ob 2) x o + 1 ≤ sN (gA ob 0) o ∧ ∀ q, q < n → ¬ q = o → stN (gA ob 4) o (dN (gA ob 2) x o + 1) q ≤ dN (gA ob 2) x q) := by
  have hd := h.2.2.sD x o hx ho
  have hS := (h.2.2.sS o ho).2
  have hd2 := hd.2
  unfold X_isDeliverable
  by_cases c : dN (gA ob 2) x o + 1 ≤ sN (gA ob 0) o
  · rw [ex_y h hn hc ho (by clear h; omega) c, Option.bind_some, if_neg (by decide)]
    unfold X_stateIndex X_msgIndex
    rw [Option.bind_some, e3 (by clear h; omega) (by clear h; omega) (by clear h; omega) (by clear h; omega), k3 (by clear h; omega) (by clear h; omega) (by clear h; omega) (by clear h; omega)]
    by_cases d : gA ob 3 (i3 x o (dN (gA ob 2) x o + 1)) = 1
    · rw [if_pos d, e2 (by clear h; omega) (by clear h; omega), k2 (by clear h; omega) (by clear h; omega), hd.1, n32_s (by clear h; omega), if_pos rfl, Option.bind_some, em (by clear h; omega) (by clear h; omega) (by clear h; omega)]
      rcases isd_l NF h hn hc hx ho (s := dN (gA ob 2) x o + 1) (by clear h; omega) (by clear h; omega) 20 NF 0 (by clear h; omega) (by clear h; omega) (by clear h; omega) (fun q z => absurd z (by omega)) with e | ⟨e, f⟩
      · left; exact e
      · right; exact ⟨e, c, f⟩
    · left; rw [if_neg d]
  · left
    rw [ex_n h hn hc (by clear h; omega) (by clear h; omega) (fun z => c z.2.2), Option.bind_some, if_pos rfl]
/-- the cascade -/
theorem csc_l (NF : Nat) (hNF : 200 < NF) {n cap x : Nat} (hn : n ≤ 8) (hc : cap ≤ 8) (hx : x < n) : ∀ (m fuel : Nat) (ob : Rec) (c : Nat), m < fuel → DI ob n cap → c ≤ 65 → 65 - c ≤ m →
    ∃ r c', X_cascade_l4 NF fuel ob (n32 x) (n32 c) (n32 c) = some (n32 (c + c'), r) ∧ DI r n cap ∧ CR ob r x c' ∧ c + c' ≤ 65 := by
  intro m
  induction m with
  | zero =>
    intro fuel ob c hf h h1 h2
    obtain ⟨g, rfl⟩ : ∃ g, fuel = g + 1 := ⟨fuel - 1, by clear h; omega⟩
    have e : c = 65 := by clear h; omega
    refine ⟨ob, 0, ?_, h, CR.rf ob x, by clear h; omega⟩
    show X_cascade_w4 NF _ ob (n32 x) (n32 c) (n32 c) = _
    unfold X_cascade_w4
    rw [e, if_neg (by decide)]
  | succ m ih =>
    intro fuel ob c hf h h1 h2
    obtain ⟨g, rfl⟩ : ∃ g, fuel = g + 1 := ⟨fuel - 1, by clear h; omega⟩
    show ∃ r c', X_cascade_w4 NF (X_cascade_l4 NF g) ob (n32 x) (n32 c) (n32 c) = _ ∧ _
    unfold X_cascade_w4
    by_cases e : c = 65
    · rw [e, if_neg (by decide)]
      exact ⟨ob, 0, rfl, h, CR.rf ob x, by clear h; omega⟩
    · rw [if_pos (by rw [lt_i, nt c (by clear h; omega)]; show (c : Int) < 65; clear h; omega)]
      have inner : ∀ (k f2 i : Nat), k < f2 → i ≤ n → n - i ≤ k → ∃ r c', X_cascade_l19 NF (X_cascade_l4 NF g) f2 ob (n32 x) (n32 c) (n32 c) (-1) 0 (n32 i) = some (n32 (c + c'), r) ∧ DI r n cap ∧ CR ob r x c' ∧ c + c' ≤ 65 := by
        have stop : ∀ kk, ∃ r c', X_cascade_w19 NF (X_cascade_l4 NF g) kk ob (n32 x) (n32 c) (n32 c) (-1) 0 (n32 n) = some (n32 (c + c'), r) ∧ DI r n cap ∧ CR ob r x c' ∧ c + c' ≤ 65 := by
          intro kk
          refine ⟨ob, 0, ?_, h, CR.rf ob x, by clear h; omega⟩
          unfold X_cascade_w19
          rw [h.1, if_neg (by rw [lt_i]; clear h; omega)]
          unfold X_cascade_b73
          rw [if_pos (by decide)]; rfl
        intro k
        induction k with
        | zero =>
          intro f2 i hf2 hi hk
          obtain ⟨g2, rfl⟩ : ∃ g2, f2 = g2 + 1 := ⟨f2 - 1, by clear h; omega⟩
          have e : i = n := by clear h; omega
          rw [e]; exact stop _
        | succ k ihk =>
          intro f2 i hf2 hi hk
          obtain ⟨g2, rfl⟩ : ∃ g2, f2 = g2 + 1 := ⟨f2 - 1, by clear h; omega⟩
          by_cases e : i = n
          · rw [e]; exact stop _
          · have hin : i < n := by clear h; omega
            have hd := h.2.2.sD x i hx hin
            have hS := (h.2.2.sS i hin).2
            have hd2 := hd.2
            show ∃ r c', X_cascade_w19 NF (X_cascade_l4 NF g) (X_cascade_l19 NF (X_cascade_l4 NF g) g2) ob (n32 x) (n32 c) (n32 c) (-1) 0 (n32 i) = _ ∧ _
            unfold X_cascade_w19
            rw [h.1, if_pos ((n32_lt (by clear h; omega) (by clear h; omega)).mpr hin), e2 (by clear h; omega) (by clear h; omega), k2 (by clear h; omega) (by clear h; omega), hd.1, n32_s (by clear h; omega)]
            rcases isd_e NF hNF h hn hc hx hin with w | ⟨w1, w2, w3⟩
            · rw [w, Option.bind_some, if_pos rfl, n32_s (by clear h; omega)]
              exact ihk g2 (i + 1) (by clear h; omega) (by clear h; omega) (by clear h; omega)
            · rw [w1, Option.bind_some, if_neg (by decide)]
              unfold X_cascade_b73
              obtain ⟨r, r1, r2, r3⟩ := dl_ok h hn hc hx hin w2 w3
              rw [if_neg (nneg (n32_b (by clear h; omega)).1), r1, Option.bind_some, n32_s (by clear h; omega)]
              obtain ⟨q, c', q1, q2, q3, q4⟩ := ih g r (c + 1) (by clear h r2; omega) r2 (by clear h r2; omega) (by clear h r2; omega)
              refine ⟨q, 1 + c', ?_, q2, r3.tr q3, by clear h r2 q2; omega⟩
              rw [q1, Nat.add_assoc]
      exact inner 20 NF 0 (by clear h; omega) (by clear h; omega) (by clear h; omega)
/-- only the copies change -/
theorem DI_5 {ob : Rec} {n cap o s q v : Nat} (h : DI ob n cap) (hn : n ≤ 8) (hc : cap ≤ 8) (ho : o < n) (h1 : 1 ≤ s) (h2 : s ≤ sN (gA ob 0) o) (hq : q < n) (hv : v ≤ 3) : DI (sA ob 5 (i5 o s q) (n32 v)) n cap := by
  obtain ⟨g0, g1, a, b, c, d, e, f, g, k, l, m⟩ := h
  have sS := (a o ho).2
  refine ⟨g0, g1, ?_⟩
  rw [gA_n _ (show ¬ 0 = 5 by decide), gA_n _ (show ¬ 1 = 5 by decide), gA_n _ (show ¬ 2 = 5 by decide), gA_n _ (show ¬ 3 = 5 by decide), gA_n _ (show ¬ 4 = 5 by decide), gA_u, gA_n _ (show ¬ 6 = 5 by decide), gA_n _ (show ¬ 7 = 5 by decide), gA_n _ (show ¬ 8 = 5 by decide)]
  refine ⟨a, b, c, d, e, fun u t w hu t1 t2 hw => ?_, g, k, l, m⟩
  by_cases z : u = o ∧ t = s ∧ w = q
  · rw [z.1, z.2.1, z.2.2]
    unfold pN
    rw [up_s, nt v (by omega)]
    exact ⟨rfl, by omega, fun y => by omega⟩
  · have := f u t w hu t1 t2 hw
    unfold pN at this ⊢
    rw [up_o (i5_ne (by omega) ⟨t1, t2⟩ (by omega) (by omega) ⟨h1, by omega⟩ (by omega) z)]
    exact this
/-- only a state changes: 0 to 1 -/
theorem DI_3 {ob : Rec} {n cap x o s : Nat} (h : DI ob n cap) (hn : n ≤ 8) (hc : cap ≤ 8) (hx : x < n) (ho : o < n) (h1 : 1 ≤ s) (h2 : s ≤ sN (gA ob 0) o) (hz : gA ob 3 (i3 x o s) = 0) : DI (sA ob 3 (i3 x o s) 1) n cap := by
  obtain ⟨g0, g1, a, b, c, d, e, f, g, k, l, m⟩ := h
  have sS := (a o ho).2
  refine ⟨g0, g1, ?_⟩
  rw [gA_n _ (show ¬ 0 = 3 by decide), gA_n _ (show ¬ 1 = 3 by decide), gA_n _ (show ¬ 2 = 3 by decide), gA_u, gA_n _ (show ¬ 4 = 3 by decide), gA_n _ (show ¬ 5 = 3 by decide), gA_n _ (show ¬ 6 = 3 by decide), gA_n _ (show ¬ 7 = 3 by decide), gA_n _ (show ¬ 8 = 3 by decide)]
  refine ⟨a, b, c, d, fun y u t hy hu t1 t2 => ?_, f, g, k, l, fun w u t hw hu t1 t2 z r hr hr1 => ?_⟩
  · by_cases z : y = x ∧ u = o ∧ t = s
    · obtain ⟨z1, z2, z3⟩ := z
      rw [z1, z2, z3]
      have hh := e x o s hx ho h1 (by omega)
      have tt : tS (up (gA ob 3) (i3 x o s) 1) x o s = 1 := up_s _ _ _
      have t0 : tS (gA ob 3) x o s = 0 := hz
      rw [tt]
      rw [t0] at hh
      refine ⟨Or.inr (Or.inl rfl), ⟨fun w => ?_, fun w => ?_⟩, fun w => by omega⟩
      · rcases w with w | w <;> exact absurd w (by decide)
      · rcases hh.2.1.mpr w with w | w <;> exact absurd w (by decide)
    · have tt : tS (up (gA ob 3) (i3 x o s) 1) y u t = tS (gA ob 3) y u t := up_o (i3_ne (by omega) (by omega) ⟨t1, t2⟩ (by omega) (by omega) ⟨h1, by omega⟩ z)
      rw [tt]; exact e y u t hy hu t1 t2
  · refine m w u t hw hu t1 t2 ?_ r hr hr1
    by_cases y : w = x ∧ u = o ∧ t = s
    · obtain ⟨z1, z2, z3⟩ := y
      rw [z1, z2, z3] at z
      have tt : tS (up (gA ob 3) (i3 x o s) 1) x o s = 1 := up_s _ _ _
      rw [tt] at z; exact absurd z (by decide)
    · have tt : tS (up (gA ob 3) (i3 x o s) 1) w u t = tS (gA ob 3) w u t := up_o (i3_ne (by omega) (by omega) ⟨t1, t2⟩ (by omega) (by omega) ⟨h1, by omega⟩ y)
      rw [tt] at z; exact z
/-- a call that only writes one copy count -/
abbrev C5 (ob r : Rec) (o s q v : Nat) : Prop := r = sA ob 5 (i5 o s q) (n32 v)
theorem rcv_e (NF : Nat) (hNF : 200 < NF) {ob : Rec} {n cap p o s : Nat} (h : DI ob n cap) (hn : n ≤ 8) (hc : cap ≤ 8) (hp : p < 100) (ho : o < 100) (hs : s < 100) :
    ∃ a r, X_receive NF ob (n32 p) (n32 o) (n32 s) = some (a, r) ∧ DI r n cap ∧
      ((a < 0 ∧ ¬ a = -5 ∧ r = ob) ∨ (p < n ∧ o < n ∧ 1 ≤ s ∧ s ≤ sN (gA ob 0) o ∧ 1 ≤ pN (gA ob 5) o s p ∧
        ((a = -5 ∧ r = sA ob 5 (i5 o s p) (n32 (pN (gA ob 5) o s p - 1))) ∨ ∃ c q, a = n32 c ∧ c ≤ 65 ∧ gA ob 3 (i3 p o s) = 0 ∧ q = sA (sA ob 5 (i5 o s p) (n32 (pN (gA ob 5) o s p - 1))) 3 (i3 p o s) 1 ∧ CR q r p c))) := by
  unfold X_receive
  rw [vp_e h.1 hn hp, Option.bind_some]
  by_cases c1 : p < n
  · rw [if_pos c1, if_neg (by decide)]
    by_cases c2 : o < n ∧ 1 ≤ s ∧ s ≤ sN (gA ob 0) o
    · obtain ⟨o1, s1', s2⟩ := c2
      have sS := (h.2.2.sS o o1).2
      rw [ex_y h hn hc o1 s1' s2, Option.bind_some, if_neg (by decide), kp (by clear h; omega)]
      by_cases c3 : gA ob 1 (n32 p) = 0
      · have hP := h.2.2.sP o s p o1 s1' (by clear h; omega) c1
        rw [if_pos c3]
        unfold X_copyIndex X_stateIndex
        have kk : ∀ A : Option (Int32 × Rec), chk 512 (i5 o s p) A = A := fun A => k5 (by clear h; omega) s1' (by clear h; omega) (by clear h; omega)
        rw [Option.bind_some, e5 (by clear h; omega) s1' (by clear h; omega) (by clear h; omega), kk]
        by_cases c4 : gA ob 5 (i5 o s p) = 0
        · rw [if_pos c4]; exact ⟨_, ob, rfl, h, Or.inl ⟨by decide, by decide, rfl⟩⟩
        · have p1 : 1 ≤ pN (gA ob 5) o s p := by
            have : ¬ pN (gA ob 5) o s p = 0 := fun z => c4 (by rw [hP.1, z]; rfl)
            clear h; omega
          have e5' : gA ob 5 (i5 o s p) - 1 = n32 (pN (gA ob 5) o s p - 1) := by
            rw [hP.1]
            obtain ⟨k, hk⟩ : ∃ k, pN (gA ob 5) o s p = k + 1 := ⟨pN (gA ob 5) o s p - 1, by clear h; omega⟩
            have := hP.2.1
            rw [hk, n32_p (by clear h; omega)]; rfl
          have kk3 : ∀ A : Option (Int32 × Rec), chk 512 (i3 p o s) A = A := fun A => k3 (by clear h; omega) (by clear h; omega) s1' (by clear h; omega)
          rw [if_neg c4, kk, kk, Option.bind_some, e3 (by clear h; omega) (by clear h; omega) s1' (by clear h; omega), kk3, e5']
          have d5 := DI_5 (v := pN (gA ob 5) o s p - 1) h hn hc o1 s1' s2 c1 (by have := hP.2.1; clear h; omega)
          by_cases c5 : gA ob 3 (i3 p o s) = 0
          · have z3 : gA (sA ob 5 (i5 o s p) (n32 (pN (gA ob 5) o s p - 1))) 3 (i3 p o s) = 0 := by rw [gA_n _ (by decide)]; exact c5
            have s2' : s ≤ sN (gA (sA ob 5 (i5 o s p) (n32 (pN (gA ob 5) o s p - 1))) 0) o := by rw [gA_n _ (by decide)]; exact s2
            have d3 := DI_3 d5 hn hc c1 o1 s1' s2' z3
            obtain ⟨r, c', r1, r2, r3, r4⟩ := csc_l NF hNF hn hc c1 66 NF _ 0 (by clear h d5 d3; omega) d3 (by clear h d5 d3; omega) (by clear h d5 d3; omega)
            rw [if_pos c5, kk3]
            unfold X_cascade
            have r1' : X_cascade_l4 NF NF (sA (sA ob 5 (i5 o s p) (n32 (pN (gA ob 5) o s p - 1))) 3 (i3 p o s) 1) (n32 p) 0 0 = some (n32 (0 + c'), r) := r1
            rw [r1', bind2_some, Nat.zero_add]
            exact ⟨_, r, rfl, r2, Or.inr ⟨c1, o1, s1', s2, p1, Or.inr ⟨c', _, rfl, by clear h d5 d3; omega, c5, rfl, r3⟩⟩⟩
          · rw [if_neg c5]
            exact ⟨_, _, rfl, d5, Or.inr ⟨c1, o1, s1', s2, p1, Or.inl ⟨rfl, rfl⟩⟩⟩
      · rw [if_neg c3]; exact ⟨_, ob, rfl, h, Or.inl ⟨by decide, by decide, rfl⟩⟩
    · rw [ex_n h hn hc ho hs c2, Option.bind_some, if_pos rfl]; exact ⟨_, ob, rfl, h, Or.inl ⟨by decide, by decide, rfl⟩⟩
  · rw [if_neg c1, if_pos rfl]; exact ⟨_, ob, rfl, h, Or.inl ⟨by decide, by decide, rfl⟩⟩
/-- duplicate -/
theorem dup_e {ob : Rec} {n cap p o s : Nat} (h : DI ob n cap) (hn : n ≤ 8) (hc : cap ≤ 8) (hp : p < 100) (ho : o < 100) (hs : s < 100) :
    ∃ a r, X_duplicate ob (n32 o) (n32 s) (n32 p) = some (a, r) ∧ DI r n cap ∧
      ((a < 0 ∧ r = ob) ∨ (p < n ∧ o < n ∧ 1 ≤ s ∧ s ≤ sN (gA ob 0) o ∧ 0 < a ∧ pN (gA ob 5) o s p + 1 ≤ 3 ∧ r = sA ob 5 (i5 o s p) (n32 (pN (gA ob 5) o s p + 1)))) := by
  unfold X_duplicate
  by_cases c2 : o < n ∧ 1 ≤ s ∧ s ≤ sN (gA ob 0) o
  · obtain ⟨o1, s1', s2⟩ := c2
    have sS := (h.2.2.sS o o1).2
    rw [ex_y h hn hc o1 s1' s2, Option.bind_some, if_neg (by decide), vp_e h.1 hn hp, Option.bind_some]
    by_cases c1 : p < n
    · rw [if_pos c1, if_neg (by decide)]
      have hP := h.2.2.sP o s p o1 s1' (by clear h; omega) c1
      unfold X_copyIndex
      have kk : ∀ A : Option (Int32 × Rec), chk 512 (i5 o s p) A = A := fun A => k5 (by clear h; omega) s1' (by clear h; omega) (by clear h; omega)
      rw [Option.bind_some, e5 (by clear h; omega) s1' (by clear h; omega) (by clear h; omega), kk]
      by_cases c4 : gA ob 5 (i5 o s p) = 0
      · rw [if_pos c4]; exact ⟨_, ob, rfl, h, Or.inl ⟨by decide, rfl⟩⟩
      · rw [if_neg c4, kk]
        by_cases c5 : gA ob 5 (i5 o s p) < 3
        · have p3 : pN (gA ob 5) o s p < 3 := by
            have := hP.2.1
            rw [lt_i, hP.1, nt _ (by clear h; omega)] at c5
            have c5' : ((pN (gA ob 5) o s p : Nat) : Int) < 3 := c5
            clear h; omega
          rw [if_pos c5, kk, kk, kk, hP.1, n32_s (by clear h; omega), gA_u, up_s]
          exact ⟨_, _, rfl, DI_5 h hn hc o1 s1' s2 c1 (by clear h; omega), Or.inr ⟨c1, o1, s1', s2, by rw [lt_i, nt _ (by clear h; omega)]; show (0 : Int) < ((_ + 1 : Nat) : Int); clear h; omega, by clear h; omega, rfl⟩⟩
        · rw [if_neg c5]; exact ⟨_, ob, rfl, h, Or.inl ⟨by decide, rfl⟩⟩
    · rw [if_neg c1, if_pos rfl]; exact ⟨_, ob, rfl, h, Or.inl ⟨by decide, rfl⟩⟩
  · rw [ex_n h hn hc ho hs c2, Option.bind_some, if_pos rfl]; exact ⟨_, ob, rfl, h, Or.inl ⟨by decide, rfl⟩⟩
theorem drp_e {ob : Rec} {n cap p o s : Nat} (h : DI ob n cap) (hn : n ≤ 8) (hc : cap ≤ 8) (hp : p < 100) (ho : o < 100) (hs : s < 100) :
    ∃ a r, X_drop ob (n32 o) (n32 s) (n32 p) = some (a, r) ∧ DI r n cap ∧
      ((a < 0 ∧ r = ob) ∨ (p < n ∧ o < n ∧ 1 ≤ s ∧ s ≤ sN (gA ob 0) o ∧ ¬ a < 0 ∧ 1 ≤ pN (gA ob 5) o s p ∧ r = sA ob 5 (i5 o s p) (n32 (pN (gA ob 5) o s p - 1)))) := by
  unfold X_drop
  by_cases c2 : o < n ∧ 1 ≤ s ∧ s ≤ sN (gA ob 0) o
  · obtain ⟨o1, s1', s2⟩ := c2
    have sS := (h.2.2.sS o o1).2
    rw [ex_y h hn hc o1 s1' s2, Option.bind_some, if_neg (by decide), vp_e h.1 hn hp, Option.bind_some]
    by_cases c1 : p < n
    · rw [if_pos c1, if_neg (by decide)]
      have hP := h.2.2.sP o s p o1 s1' (by clear h; omega) c1
      unfold X_copyIndex
      have kk : ∀ A : Option (Int32 × Rec), chk 512 (i5 o s p) A = A := fun A => k5 (by clear h; omega) s1' (by clear h; omega) (by clear h; omega)
      rw [Option.bind_some, e5 (by clear h; omega) s1' (by clear h; omega) (by clear h; omega), kk]
      by_cases c4 : gA ob 5 (i5 o s p) = 0
      · rw [if_pos c4]; exact ⟨_, ob, rfl, h, Or.inl ⟨by decide, rfl⟩⟩
      · have p1 : 1 ≤ pN (gA ob 5) o s p := by
          have : ¬ pN (gA ob 5) o s p = 0 := fun z => c4 (by rw [hP.1, z]; rfl)
          clear h; omega
        have e5' : gA ob 5 (i5 o s p) - 1 = n32 (pN (gA ob 5) o s p - 1) := by
          rw [hP.1]
          obtain ⟨k, hk⟩ : ∃ k, pN (gA ob 5) o s p = k + 1 := ⟨pN (gA ob 5) o s p - 1, by clear h; omega⟩
          have := hP.2.1
          rw [hk, n32_p (by clear h; omega)]; rfl
        rw [if_neg c4, kk, kk, kk, e5', gA_u, up_s]
        have := hP.2.1
        exact ⟨_, _, rfl, DI_5 h hn hc o1 s1' s2 c1 (by clear h; omega), Or.inr ⟨c1, o1, s1', s2, nneg (n32_b (by clear h; omega)).1, p1, rfl⟩⟩
    · rw [if_neg c1, if_pos rfl]; exact ⟨_, ob, rfl, h, Or.inl ⟨by decide, rfl⟩⟩
  · rw [ex_n h hn hc ho hs c2, Option.bind_some, if_pos rfl]; exact ⟨_, ob, rfl, h, Or.inl ⟨by decide, rfl⟩⟩
theorem rtx_e {ob : Rec} {n cap q p o s : Nat} (h : DI ob n cap) (hn : n ≤ 8) (hc : cap ≤ 8) (hq : q < 100) (hp : p < 100) (ho : o < 100) (hs : s < 100) :
    ∃ a r, X_retransmit ob (n32 q) (n32 p) (n32 o) (n32 s) = some (a, r) ∧ DI r n cap ∧
      ((¬ a = 0 ∧ r = ob) ∨ (p < n ∧ o < n ∧ 1 ≤ s ∧ s ≤ sN (gA ob 0) o ∧ a = 0 ∧ pN (gA ob 5) o s p + 1 ≤ 3 ∧ r = sA ob 5 (i5 o s p) (n32 (pN (gA ob 5) o s p + 1)))) := by
  unfold X_retransmit
  rw [vp_e h.1 hn hq, Option.bind_some]
  by_cases c0 : q < n
  · rw [if_pos c0, if_neg (by decide), vp_e h.1 hn hp, Option.bind_some]
    by_cases c1 : p < n
    · rw [if_pos c1, if_neg (by decide)]
      by_cases ce : n32 q = n32 p
      · rw [if_pos ce]; exact ⟨_, ob, rfl, h, Or.inl ⟨by decide, rfl⟩⟩
      · rw [if_neg ce]
        by_cases c2 : o < n ∧ 1 ≤ s ∧ s ≤ sN (gA ob 0) o
        · obtain ⟨o1, s1', s2⟩ := c2
          have sS := (h.2.2.sS o o1).2
          rw [ex_y h hn hc o1 s1' s2, Option.bind_some, if_neg (by decide), kp (by clear h; omega)]
          by_cases l1 : gA ob 1 (n32 q) = 0
          · rw [if_pos l1, kp (by clear h; omega)]
            by_cases l2 : gA ob 1 (n32 p) = 0
            · rw [if_pos l2]
              unfold X_stateIndex X_copyIndex
              rw [Option.bind_some, e3 (by clear h; omega) (by clear h; omega) s1' (by clear h; omega), k3 (by clear h; omega) (by clear h; omega) s1' (by clear h; omega)]
              by_cases l3 : gA ob 3 (i3 q o s) = 2
              · have hP := h.2.2.sP o s p o1 s1' (by clear h; omega) c1
                have kk : ∀ A : Option (Int32 × Rec), chk 512 (i5 o s p) A = A := fun A => k5 (by clear h; omega) s1' (by clear h; omega) (by clear h; omega)
                rw [if_pos l3, Option.bind_some, e5 (by clear h; omega) s1' (by clear h; omega) (by clear h; omega), kk]
                by_cases c5 : gA ob 5 (i5 o s p) < 3
                · have p3 : pN (gA ob 5) o s p < 3 := by
                    have := hP.2.1
                    rw [lt_i, hP.1, nt _ (by clear h; omega)] at c5
                    have c5' : ((pN (gA ob 5) o s p : Nat) : Int) < 3 := c5
                    clear h; omega
                  rw [if_pos c5, kk, kk, hP.1, n32_s (by clear h; omega)]
                  exact ⟨_, _, rfl, DI_5 h hn hc o1 s1' s2 c1 (by clear h; omega), Or.inr ⟨c1, o1, s1', s2, rfl, by clear h; omega, rfl⟩⟩
                · rw [if_neg c5]; exact ⟨_, ob, rfl, h, Or.inl ⟨by decide, rfl⟩⟩
              · rw [if_neg l3]; exact ⟨_, ob, rfl, h, Or.inl ⟨by decide, rfl⟩⟩
            · rw [if_neg l2]; exact ⟨_, ob, rfl, h, Or.inl ⟨by decide, rfl⟩⟩
          · rw [if_neg l1]; exact ⟨_, ob, rfl, h, Or.inl ⟨by decide, rfl⟩⟩
        · rw [ex_n h hn hc ho hs c2, Option.bind_some, if_pos rfl]; exact ⟨_, ob, rfl, h, Or.inl ⟨by decide, rfl⟩⟩
    · rw [if_neg c1, if_pos rfl]; exact ⟨_, ob, rfl, h, Or.inl ⟨by decide, rfl⟩⟩
  · rw [if_neg c0, if_pos rfl]; exact ⟨_, ob, rfl, h, Or.inl ⟨by decide, rfl⟩⟩
/-- only what is known changes -/
theorem DI_6 {ob : Rec} {n cap p q o : Nat} {v : Nat} (h : DI ob n cap) (hn : n ≤ 8) (hc : cap ≤ 8) (hp : p < n) (hq : q < n) (ho : o < n) (hv : v ≤ dN (gA ob 2) q o) (hpq : ¬ q = p) : DI (sA ob 6 (i6 p q o) (n32 v)) n cap := by
  obtain ⟨g0, g1, a, b, c, d, e, f, g, k, l, m⟩ := h
  have sS := (a o ho).2
  have sD := (c q o hq ho).2
  refine ⟨g0, g1, ?_⟩
  rw [gA_n _ (show ¬ 0 = 6 by decide), gA_n _ (show ¬ 1 = 6 by decide), gA_n _ (show ¬ 2 = 6 by decide), gA_n _ (show ¬ 3 = 6 by decide), gA_n _ (show ¬ 4 = 6 by decide), gA_n _ (show ¬ 5 = 6 by decide), gA_u, gA_n _ (show ¬ 7 = 6 by decide), gA_n _ (show ¬ 8 = 6 by decide)]
  refine ⟨a, b, c, d, e, f, fun x y u hx hy hu => ?_, k, l, m⟩
  have hh := g x y u hx hy hu
  have same : kwN (up (gA ob 6) (i6 p q o) (n32 v)) x x u = kwN (gA ob 6) x x u := by
    unfold kwN
    rw [up_o (i6_ne (by omega) (by omega) (by omega) (by omega) (by omega) (by omega) (fun z => hpq (z.2.1.symm.trans z.1)))]
  rw [same]
  by_cases z : x = p ∧ y = q ∧ u = o
  · obtain ⟨z1, z2, z3⟩ := z
    have kk : kwN (up (gA ob 6) (i6 p q o) (n32 v)) p q o = v := by unfold kwN; rw [up_s, nt v (by omega)]; rfl
    refine ⟨?_, ?_, hh.2.2⟩
    · rw [z1, z2, z3, kk, up_s]
    · rw [z1, z2, z3, kk]; exact hv
  · have kk : (up (gA ob 6) (i6 p q o) (n32 v)) (i6 x y u) = gA ob 6 (i6 x y u) := up_o (i6_ne (by omega) (by omega) (by omega) (by omega) (by omega) (by omega) z)
    have kk' : kwN (up (gA ob 6) (i6 p q o) (n32 v)) x y u = kwN (gA ob 6) x y u := by unfold kwN; rw [kk]
    rw [kk, kk']; exact hh
abbrev G6 (ob r : Rec) : Prop := (∀ j, gI r j = gI ob j) ∧ ∀ j, ¬ j = 6 → gA r j = gA ob j
theorem gos_l (NF : Nat) (hNF : 200 < NF) {n cap p q : Nat} (hn : n ≤ 8) (hc : cap ≤ 8) (hp : p < n) (hq : q < n) (hpq : ¬ p = q) : ∀ (m fuel : Nat) (ob : Rec) (i : Nat), m < fuel → i ≤ n → n - i ≤ m → DI ob n cap →
    ∃ r, X_gossip_l46 NF fuel ob (n32 p) (n32 q) (n32 i) = some (0, r) ∧ DI r n cap ∧ G6 ob r := by
  have stop : ∀ (kk) (ob : Rec), DI ob n cap → X_gossip_w46 NF kk ob (n32 p) (n32 q) (n32 n) = some (0, ob) := by
    intro kk ob h
    unfold X_gossip_w46
    rw [h.1, if_neg (by rw [lt_i]; clear h; omega)]
  intro m
  induction m with
  | zero =>
    intro fuel ob i hf hi hm h
    obtain ⟨g, rfl⟩ : ∃ g, fuel = g + 1 := ⟨fuel - 1, by clear h; omega⟩
    have e : i = n := by clear h; omega
    rw [e]
    exact ⟨ob, stop _ ob h, h, fun _ => rfl, fun _ _ => rfl⟩
  | succ m ih =>
    intro fuel ob i hf hi hm h
    obtain ⟨g, rfl⟩ : ∃ g, fuel = g + 1 := ⟨fuel - 1, by clear h; omega⟩
    by_cases e : i = n
    · rw [e]
      exact ⟨ob, stop _ ob h, h, fun _ => rfl, fun _ _ => rfl⟩
    · have hin : i < n := by clear h; omega
      have inner : ∀ (k f2 : Nat) (ob : Rec) (j : Nat), k < f2 → j ≤ n → n - j ≤ k → DI ob n cap → ∃ r, X_gossip_l57 NF (X_gossip_l46 NF g) f2 ob (n32 p) (n32 q) (n32 i) (n32 j) = some (0, r) ∧ DI r n cap ∧ G6 ob r := by
        have stop2 : ∀ (kk) (ob : Rec), DI ob n cap → ∃ r, X_gossip_w57 NF (X_gossip_l46 NF g) kk ob (n32 p) (n32 q) (n32 i) (n32 n) = some (0, r) ∧ DI r n cap ∧ G6 ob r := by
          intro kk ob h
          unfold X_gossip_w57
          rw [h.1, if_neg (by rw [lt_i]; clear h; omega), n32_s (by clear h; omega)]
          exact ih g ob (i + 1) (by clear h; omega) (by clear h; omega) (by clear h; omega) h
        intro k
        induction k with
        | zero =>
          intro f2 ob j hf2 hj hk h
          obtain ⟨g2, rfl⟩ : ∃ g2, f2 = g2 + 1 := ⟨f2 - 1, by clear h; omega⟩
          have e : j = n := by clear h; omega
          rw [e]; exact stop2 _ ob h
        | succ k ihk =>
          intro f2 ob j hf2 hj hk h
          obtain ⟨g2, rfl⟩ : ∃ g2, f2 = g2 + 1 := ⟨f2 - 1, by clear h; omega⟩
          by_cases e : j = n
          · rw [e]; exact stop2 _ ob h
          · have hjn : j < n := by clear h; omega
            show ∃ r, X_gossip_w57 NF (X_gossip_l46 NF g) (X_gossip_l57 NF (X_gossip_l46 NF g) g2) ob (n32 p) (n32 q) (n32 i) (n32 j) = _ ∧ _
            unfold X_gossip_w57
            have q1 : ∀ A : Option (Int32 × Rec), chk 512 (i6 p i j) A = A := fun A => k6 (by clear h; omega) (by clear h; omega) (by clear h; omega)
            have q2 : ∀ A : Option (Int32 × Rec), chk 512 (i6 q i j) A = A := fun A => k6 (by clear h; omega) (by clear h; omega) (by clear h; omega)
            rw [h.1, if_pos ((n32_lt (by clear h; omega) (by clear h; omega)).mpr hjn), e6 (by clear h; omega) (by clear h; omega) (by clear h; omega), e6 (by clear h; omega) (by clear h; omega) (by clear h; omega), q1, q2, n32_s (by clear h; omega)]
            have hp1 := h.2.2.sK p i j hp hin hjn
            have hq1 := h.2.2.sK q i j hq hin hjn
            have hD := (h.2.2.sD i j hin hjn).2
            have hS := (h.2.2.sS j hjn).2
            by_cases d : gA ob 6 (i6 q i j) < gA ob 6 (i6 p i j)
            · rw [if_pos d, q1, q2, hp1.1]
              have ne : ¬ i = q := by
                intro z
                have a1 := hp1.2.1
                have a2 := hq1.2.2
                rw [hp1.1, hq1.1, n32_lt (by have := hq1.2.1; clear h; omega) (by clear h; omega)] at d
                rw [z] at d a1
                clear h; omega
              have d6 := DI_6 h hn hc hq hin hjn hp1.2.1 ne
              obtain ⟨r, r1, r2, r3, r4⟩ := ihk g2 _ (j + 1) (by clear h d6; omega) (by clear h d6; omega) (by clear h d6; omega) d6
              exact ⟨r, r1, r2, r3, fun j hj => (r4 j hj).trans (gA_n _ hj _ _)⟩
            · rw [if_neg d]
              exact ihk g2 ob (j + 1) (by clear h; omega) (by clear h; omega) (by clear h; omega) h
      show ∃ r, X_gossip_w46 NF (X_gossip_l46 NF g) ob (n32 p) (n32 q) (n32 i) = _ ∧ _
      unfold X_gossip_w46
      rw [h.1, if_pos ((n32_lt (by clear h; omega) (by clear h; omega)).mpr hin)]
      exact inner 20 NF ob 0 (by clear h; omega) (by clear h; omega) (by clear h; omega) h
theorem gos_e (NF : Nat) (hNF : 200 < NF) {ob : Rec} {n cap p q : Nat} (h : DI ob n cap) (hn : n ≤ 8) (hc : cap ≤ 8) (hp : p < 100) (hq : q < 100) :
    ∃ a r, X_gossip NF ob (n32 p) (n32 q) = some (a, r) ∧ DI r n cap ∧ G6 ob r := by
  have no : ∀ a : Int32, ∃ b r, some (a, ob) = some (b, r) ∧ DI r n cap ∧ G6 ob r := fun a => ⟨a, ob, rfl, h, fun _ => rfl, fun _ _ => rfl⟩
  unfold X_gossip
  rw [vp_e h.1 hn hp, Option.bind_some]
  by_cases c0 : p < n
  · rw [if_pos c0, if_neg (by decide), vp_e h.1 hn hq, Option.bind_some]
    by_cases c1 : q < n
    · rw [if_pos c1, if_neg (by decide)]
      by_cases ce : p = q
      · rw [if_pos (by rw [ce])]; exact no _
      · rw [if_neg (i1_ne (by clear h; omega) (by clear h; omega) ce), kp (by clear h; omega)]
        by_cases l1 : gA ob 1 (n32 p) = 0
        · rw [if_pos l1, kp (by clear h; omega)]
          by_cases l2 : gA ob 1 (n32 q) = 0
          · rw [if_pos l2]
            obtain ⟨r, r1, r2⟩ := gos_l NF hNF hn hc c0 c1 ce 20 NF ob 0 (by clear h; omega) (by clear h; omega) (by clear h; omega) h
            exact ⟨_, r, r1, r2⟩
          · rw [if_neg l2]; exact no _
        · rw [if_neg l1]; exact no _
    · rw [if_neg c1, if_pos rfl]; exact no _
  · rw [if_neg c0, if_pos rfl]; exact no _
/-- a state pruned -/
theorem DI_p {ob : Rec} {n cap x o s : Nat} (h : DI ob n cap) (hn : n ≤ 8) (hc : cap ≤ 8) (hx : x < n) (ho : o < n) (h1 : 1 ≤ s) (h2 : s ≤ sN (gA ob 0) o) (hz : gA ob 3 (i3 x o s) = 2) (hs : ∀ r, r < n → gA ob 1 (n32 r) = 0 → s ≤ dN (gA ob 2) r o) : DI (sA ob 3 (i3 x o s) 3) n cap := by
  obtain ⟨g0, g1, a, b, c, d, e, f, g, k, l, m⟩ := h
  have sS := (a o ho).2
  refine ⟨g0, g1, ?_⟩
  rw [gA_n _ (show ¬ 0 = 3 by decide), gA_n _ (show ¬ 1 = 3 by decide), gA_n _ (show ¬ 2 = 3 by decide), gA_u, gA_n _ (show ¬ 4 = 3 by decide), gA_n _ (show ¬ 5 = 3 by decide), gA_n _ (show ¬ 6 = 3 by decide), gA_n _ (show ¬ 7 = 3 by decide), gA_n _ (show ¬ 8 = 3 by decide)]
  refine ⟨a, b, c, d, fun y u t hy hu t1 t2 => ?_, f, g, k, l, fun w u t hw hu t1 t2 z r hr hr1 => ?_⟩
  · by_cases z : y = x ∧ u = o ∧ t = s
    · obtain ⟨z1, z2, z3⟩ := z
      rw [z1, z2, z3]
      have hh := e x o s hx ho h1 (by omega)
      have tt : tS (up (gA ob 3) (i3 x o s) 3) x o s = 3 := up_s _ _ _
      rw [tt]
      refine ⟨Or.inr (Or.inr (Or.inr rfl)), ⟨fun w => hh.2.1.mp (Or.inl hz), fun w => Or.inr rfl⟩, fun w => by omega⟩
    · have tt : tS (up (gA ob 3) (i3 x o s) 3) y u t = tS (gA ob 3) y u t := up_o (i3_ne (by omega) (by omega) ⟨t1, t2⟩ (by omega) (by omega) ⟨h1, by omega⟩ z)
      rw [tt]; exact e y u t hy hu t1 t2
  · by_cases y : w = x ∧ u = o ∧ t = s
    · obtain ⟨z1, z2, z3⟩ := y
      rw [z2, z3]; exact hs r hr hr1
    · have tt : tS (up (gA ob 3) (i3 x o s) 3) w u t = tS (gA ob 3) w u t := up_o (i3_ne (by omega) (by omega) ⟨t1, t2⟩ (by omega) (by omega) ⟨h1, by omega⟩ y)
      rw [tt] at z
      exact m w u t hw hu t1 t2 z r hr hr1
theorem ist_l (NF : Nat) {ob : Rec} {n cap x o s : Nat} (h : DI ob n cap) (hn : n ≤ 8) (hc : cap ≤ 8) (hx : x < n) (ho : o < n) (hs : s ≤ 8) : ∀ (m fuel i : Nat), m < fuel → i ≤ n → n - i ≤ m → (∀ r, r < i → gA ob 1 (n32 r) = 0 → s ≤ dN (gA ob 2) r o) →
    X_isStable_l3 NF ob fuel (n32 x) (n32 o) (n32 s) (n32 i) = some 0 ∨ (X_isStable_l3 NF ob fuel (n32 x) (n32 o) (n32 s) (n32 i) = some 1 ∧ ∀ r, r < n → gA ob 1 (n32 r) = 0 → s ≤ dN (gA ob 2) r o) := by
  intro m
  induction m with
  | zero =>
    intro fuel i hf hi hm hq
    obtain ⟨g, rfl⟩ : ∃ g, fuel = g + 1 := ⟨fuel - 1, by clear h; omega⟩
    have e : i = n := by clear h; omega
    right
    refine ⟨?_, by rw [← e]; exact hq⟩
    show X_isStable_w3 NF ob _ _ _ _ _ = _
    unfold X_isStable_w3
    rw [h.1, if_neg (fun z => by rw [n32_lt (by clear h; omega) (by clear h; omega)] at z; clear h; omega)]
  | succ m ih =>
    intro fuel i hf hi hm hq
    obtain ⟨g, rfl⟩ : ∃ g, fuel = g + 1 := ⟨fuel - 1, by clear h; omega⟩
    show X_isStable_w3 NF ob (X_isStable_l3 NF ob g) _ _ _ _ = _ ∨ (X_isStable_w3 NF ob (X_isStable_l3 NF ob g) _ _ _ _ = _ ∧ _)
    unfold X_isStable_w3
    rw [h.1]
    by_cases e : i = n
    · right
      rw [if_neg (fun z => by rw [n32_lt (by clear h; omega) (by clear h; omega)] at z; clear h; omega)]
      exact ⟨rfl, by rw [← e]; exact hq⟩
    · have hin : i < n := by clear h; omega
      rw [if_pos ((n32_lt (by clear h; omega) (by clear h; omega)).mpr hin), n32_s (by clear h; omega), kp (by clear h; omega)]
      have nx := fun hq' => ih g (i + 1) (by clear h; omega) (by clear h; omega) (by clear h; omega) hq'
      by_cases c : gA ob 1 (n32 i) = 0
      · rw [if_pos c]
        unfold X_knownIndex
        rw [Option.bind_some, e6 (by clear h; omega) (by clear h; omega) (by clear h; omega), k6 (by clear h; omega) (by clear h; omega) (by clear h; omega)]
        have hk := h.2.2.sK x i o hx hin ho
        have hk2 := hk.2.1
        have hD := (h.2.2.sD i o hin ho).2
        have hS := (h.2.2.sS o ho).2
        by_cases d : gA ob 6 (i6 x i o) < n32 s
        · left; rw [if_pos d]
        · rw [if_neg d]
          refine nx (fun q z w => ?_)
          by_cases e' : q = i
          · rw [e']
            rw [hk.1, n32_lt (by clear h; omega) (by clear h; omega)] at d
            clear h; omega
          · exact hq q (by clear h; omega) w
      · rw [if_neg c]
        refine nx (fun q z w => ?_)
        by_cases e' : q = i
        · rw [e'] at w; exact absurd w c
        · exact hq q (by clear h; omega) w
/-- what a prune leaves -/
abbrev G3 (ob r : Rec) : Prop := (∀ j, gI r j = gI ob j) ∧ ∀ j, ¬ j = 3 → gA r j = gA ob j
theorem prn_l (NF : Nat) (hNF : 200 < NF) {n cap p : Nat} (hn : n ≤ 8) (hc : cap ≤ 8) (hp : p < n) (pc : Fn → Nat) (hpc : ∀ a o s, o < n → 1 ≤ s → s ≤ cap → a (i3 p o s) = 2 → pc (up a (i3 p o s) 3) = pc a + 1) : ∀ (m fuel : Nat) (ob : Rec) (c i : Nat), m < fuel → i ≤ n → n - i ≤ m → c ≤ i * 8 → DI ob n cap →
    ∃ r c', X_prune_l26 NF fuel ob (n32 p) (n32 c) (n32 i) = some (n32 (c + c'), r) ∧ c + c' ≤ 64 ∧ DI r n cap ∧ G3 ob r ∧ pc (gA r 3) = pc (gA ob 3) + c' := by
  have stop : ∀ (kk) (ob : Rec) (c : Nat), DI ob n cap → X_prune_w26 NF kk ob (n32 p) (n32 c) (n32 n) = some (n32 c, ob) := by
    intro kk ob c h
    unfold X_prune_w26
    rw [h.1, if_neg (by rw [lt_i]; clear h; omega)]
  intro m
  induction m with
  | zero =>
    intro fuel ob c i hf hi hm hci h
    obtain ⟨g, rfl⟩ : ∃ g, fuel = g + 1 := ⟨fuel - 1, by clear h; omega⟩
    have e : i = n := by clear h; omega
    rw [e]
    exact ⟨ob, 0, stop _ ob c h, by clear h; omega, h, ⟨fun _ => rfl, fun _ _ => rfl⟩, rfl⟩
  | succ m ih =>
    intro fuel ob c i hf hi hm hci h
    obtain ⟨g, rfl⟩ : ∃ g, fuel = g + 1 := ⟨fuel - 1, by clear h; omega⟩
    by_cases e : i = n
    · rw [e]
      exact ⟨ob, 0, stop _ ob c h, by clear h; omega, h, ⟨fun _ => rfl, fun _ _ => rfl⟩, rfl⟩
    · have hin : i < n := by clear h; omega
      have inner : ∀ (k f2 : Nat) (ob : Rec) (c j : Nat), k < f2 → 1 ≤ j → j ≤ sN (gA ob 0) i + 1 → sN (gA ob 0) i + 1 - j ≤ k → c ≤ i * 8 + (j - 1) → DI ob n cap →
          ∃ r c', X_prune_l45 NF (X_prune_l26 NF g) f2 ob (n32 p) (n32 c) (n32 i) (n32 (sN (gA ob 0) i)) (n32 j) = some (n32 (c + c'), r) ∧ c + c' ≤ 64 ∧ DI r n cap ∧ G3 ob r ∧ pc (gA r 3) = pc (gA ob 3) + c' := by
        have stop2 : ∀ (kk) (ob : Rec) (c : Nat), c ≤ i * 8 + sN (gA ob 0) i → DI ob n cap → ∃ r c', X_prune_w45 NF (X_prune_l26 NF g) kk ob (n32 p) (n32 c) (n32 i) (n32 (sN (gA ob 0) i)) (n32 (sN (gA ob 0) i + 1)) = some (n32 (c + c'), r) ∧ c + c' ≤ 64 ∧ DI r n cap ∧ G3 ob r ∧ pc (gA r 3) = pc (gA ob 3) + c' := by
          intro kk ob c hcc h
          have hS := (h.2.2.sS i hin).2
          unfold X_prune_w45
          rw [if_pos ((n32_lt (by clear h; omega) (by clear h; omega)).mpr (by clear h; omega)), n32_s (by clear h; omega)]
          exact ih g ob c (i + 1) (by clear h; omega) (by clear h; omega) (by clear h; omega) (by clear h; omega) h
        intro k
        induction k with
        | zero =>
          intro f2 ob c j hf2 j1 j2 hk hcc h
          obtain ⟨g2, rfl⟩ : ∃ g2, f2 = g2 + 1 := ⟨f2 - 1, by clear h; omega⟩
          have e : j = sN (gA ob 0) i + 1 := by clear h; omega
          rw [e]; exact stop2 _ ob c (by clear h; omega) h
        | succ k ihk =>
          intro f2 ob c j hf2 j1 j2 hk hcc h
          obtain ⟨g2, rfl⟩ : ∃ g2, f2 = g2 + 1 := ⟨f2 - 1, by clear h; omega⟩
          by_cases e : j = sN (gA ob 0) i + 1
          · rw [e]; exact stop2 _ ob c (by clear h; omega) h
          · have hS := (h.2.2.sS i hin).2
            have js : j ≤ sN (gA ob 0) i := by clear h; omega
            show ∃ r c', X_prune_w45 NF (X_prune_l26 NF g) (X_prune_l45 NF (X_prune_l26 NF g) g2) ob (n32 p) (n32 c) (n32 i) (n32 (sN (gA ob 0) i)) (n32 j) = _ ∧ _
            unfold X_prune_w45 X_stateIndex
            have kk3 : ∀ A : Option (Int32 × Rec), chk 512 (i3 p i j) A = A := fun A => k3 (by clear h; omega) (by clear h; omega) j1 (by clear h; omega)
            rw [if_neg (fun z => by rw [n32_lt (by clear h; omega) (by clear h; omega)] at z; clear h; omega), if_neg (by rw [lt_i, nt j (by clear h; omega)]; show ¬ (8 : Int) < j; clear h; omega), Option.bind_some, e3 (by clear h; omega) (by clear h; omega) j1 (by clear h; omega), kk3, n32_s (by clear h; omega)]
            by_cases d : gA ob 3 (i3 p i j) = 2
            · rw [if_pos d]
              unfold X_isStable
              rcases ist_l NF h hn hc hp hin (show j ≤ 8 by clear h; omega) 20 NF 0 (by clear h; omega) (by clear h; omega) (by clear h; omega) (fun r z => absurd z (by omega)) with w | ⟨w1, w2⟩
              · have w' : X_isStable_l3 NF ob NF (n32 p) (n32 i) (n32 j) 0 = some 0 := w
                rw [w', Option.bind_some, if_pos rfl]
                exact ihk g2 ob c (j + 1) (by clear h; omega) (by clear h; omega) (by clear h; omega) (by clear h; omega) (by clear h; omega) h
              · have w' : X_isStable_l3 NF ob NF (n32 p) (n32 i) (n32 j) 0 = some 1 := w1
                rw [w', Option.bind_some, if_neg (by decide), kk3, n32_s (by clear h; omega)]
                have dp := DI_p h hn hc hp hin j1 js d w2
                have e0 : gA (sA ob 3 (i3 p i j) 3) 0 = gA ob 0 := gA_n _ (by decide) _ _
                have nx := ihk g2 (sA ob 3 (i3 p i j) 3) (c + 1) (j + 1) (by clear h dp; omega) (by clear h dp; omega) (by rw [e0]; clear h dp; omega) (by rw [e0]; clear h dp; omega) (by clear h dp; omega) dp
                rw [e0] at nx
                obtain ⟨r, c', r1, r2, r3, r4, r5⟩ := nx
                refine ⟨r, 1 + c', ?_, by clear h dp r3; omega, r3, ⟨r4.1, fun j hj => (r4.2 j hj).trans (gA_n _ hj _ _)⟩, ?_⟩
                · rw [r1, Nat.add_assoc]
                · rw [r5, gA_u, hpc _ i j hin j1 (by clear h dp r3; omega) d]; clear h dp r3; omega
            · rw [if_neg d]
              exact ihk g2 ob c (j + 1) (by clear h; omega) (by clear h; omega) (by clear h; omega) (by clear h; omega) (by clear h; omega) h
      have hS := h.2.2.sS i hin
      show ∃ r c', X_prune_w26 NF (X_prune_l26 NF g) ob (n32 p) (n32 c) (n32 i) = _ ∧ _
      unfold X_prune_w26
      rw [h.1, if_pos ((n32_lt (by clear h; omega) (by clear h; omega)).mpr hin), kp (by clear h; omega), hS.1]
      have hS2 := hS.2
      exact inner 20 NF ob c 1 (by clear h; omega) (by clear h; omega) (by clear h; omega) (by clear h; omega) (by clear h; omega) h
theorem prn_e (NF : Nat) (hNF : 200 < NF) {ob : Rec} {n cap p : Nat} (h : DI ob n cap) (hn : n ≤ 8) (hc : cap ≤ 8) (hp : p < 100) (pc : Fn → Nat) (hpc : ∀ x a o s, x < n → o < n → 1 ≤ s → s ≤ cap → a (i3 x o s) = 2 → pc (up a (i3 x o s) 3) = pc a + 1) :
    ∃ a r, X_prune NF ob (n32 p) = some (a, r) ∧ DI r n cap ∧ ((a < 0 ∧ r = ob) ∨ ∃ c, a = n32 c ∧ c ≤ 64 ∧ G3 ob r ∧ pc (gA r 3) = pc (gA ob 3) + c) := by
  unfold X_prune
  rw [vp_e h.1 hn hp, Option.bind_some]
  by_cases c0 : p < n
  · rw [if_pos c0, if_neg (by decide), kp (by clear h; omega)]
    by_cases l1 : gA ob 1 (n32 p) = 0
    · obtain ⟨r, c', r1, r2, r3, r4, r5⟩ := prn_l NF hNF hn hc c0 pc (fun a o s => hpc p a o s c0) 20 NF ob 0 0 (by clear h; omega) (by clear h; omega) (by clear h; omega) (by clear h; omega) h
      have r1' : X_prune_l26 NF NF ob (n32 p) 0 0 = some (n32 (0 + c'), r) := r1
      rw [if_pos l1, r1', Nat.zero_add]
      exact ⟨_, r, rfl, r3, Or.inr ⟨c', rfl, by clear h r3; omega, r4, r5⟩⟩
    · rw [if_neg l1]; exact ⟨_, ob, rfl, h, Or.inl ⟨by decide, rfl⟩⟩
  · rw [if_neg c0, if_pos rfl]; exact ⟨_, ob, rfl, h, Or.inl ⟨by decide, rfl⟩⟩
/-- crash -/
theorem oac_l (NF : Nat) {ob : Rec} {n p : Nat} (h0 : gI ob 0 = n32 n) (hn : n ≤ 8) (hp : p < n) : ∀ (m fuel i : Nat), m < fuel → i ≤ n → n - i ≤ m →
    (X_othersAllCrashed_l2 NF ob fuel (n32 p) (n32 i) = some 0 ∧ ∃ q, q < n ∧ ¬ q = p ∧ gA ob 1 (n32 q) = 0) ∨ X_othersAllCrashed_l2 NF ob fuel (n32 p) (n32 i) = some 1 := by
  intro m
  induction m with
  | zero =>
    intro fuel i hf hi hm
    obtain ⟨g, rfl⟩ : ∃ g, fuel = g + 1 := ⟨fuel - 1, by omega⟩
    right
    show X_othersAllCrashed_w2 NF ob _ _ _ = _
    unfold X_othersAllCrashed_w2
    rw [h0, if_neg (fun z => by rw [n32_lt (by omega) (by omega)] at z; omega)]
  | succ m ih =>
    intro fuel i hf hi hm
    obtain ⟨g, rfl⟩ : ∃ g, fuel = g + 1 := ⟨fuel - 1, by omega⟩
    show (X_othersAllCrashed_w2 NF ob (X_othersAllCrashed_l2 NF ob g) _ _ = _ ∧ _) ∨ X_othersAllCrashed_w2 NF ob (X_othersAllCrashed_l2 NF ob g) _ _ = _
    unfold X_othersAllCrashed_w2
    rw [h0]
    by_cases e : i = n
    · right
      rw [if_neg (fun z => by rw [n32_lt (by omega) (by omega)] at z; omega)]
    · rw [if_pos ((n32_lt (by omega) (by omega)).mpr (by omega)), n32_s (by omega)]
      by_cases c : i = p
      · rw [if_pos (by rw [c])]; exact ih g (i + 1) (by omega) (by omega) (by omega)
      · rw [if_neg (i1_ne (by omega) (by omega) c), kp (by omega)]
        by_cases d : gA ob 1 (n32 i) = 0
        · left; rw [if_pos d]; exact ⟨rfl, i, by omega, c, d⟩
        · rw [if_neg d]; exact ih g (i + 1) (by omega) (by omega) (by omega)
theorem crs_e (NF : Nat) (hNF : 200 < NF) {ob : Rec} {n cap p : Nat} (h : DI ob n cap) (hn : n ≤ 8) (hc : cap ≤ 8) (hp : p < 100) :
    ∃ a r, X_crash NF ob (n32 p) = some (a, r) ∧ DI r n cap ∧ ((¬ a = 0 ∧ r = ob) ∨ (a = 0 ∧ p < n ∧ r = sA ob 1 (n32 p) 1 ∧ ∃ q, q < n ∧ ¬ q = p ∧ gA ob 1 (n32 q) = 0)) := by
  unfold X_crash
  rw [vp_e h.1 hn hp, Option.bind_some]
  by_cases c0 : p < n
  · rw [if_pos c0, if_neg (by decide), kp (by clear h; omega)]
    by_cases l1 : gA ob 1 (n32 p) = 0
    · rw [if_pos l1]
      unfold X_othersAllCrashed
      rcases oac_l NF h.1 hn c0 20 NF 0 (by clear h; omega) (by clear h; omega) (by clear h; omega) with ⟨w, q⟩ | w
      · have w' : X_othersAllCrashed_l2 NF ob NF (n32 p) 0 = some 0 := w
        rw [w', Option.bind_some, if_pos rfl, kp (by clear h; omega)]
        refine ⟨_, _, rfl, ?_, Or.inr ⟨rfl, c0, rfl, q⟩⟩
        obtain ⟨g0, g1, a, b, c, d, e, f, g, k, l, m⟩ := h
        refine ⟨g0, g1, ?_⟩
        rw [gA_n _ (show ¬ 0 = 1 by decide), gA_u, gA_n _ (show ¬ 2 = 1 by decide), gA_n _ (show ¬ 3 = 1 by decide), gA_n _ (show ¬ 4 = 1 by decide), gA_n _ (show ¬ 5 = 1 by decide), gA_n _ (show ¬ 6 = 1 by decide), gA_n _ (show ¬ 7 = 1 by decide), gA_n _ (show ¬ 8 = 1 by decide)]
        refine ⟨a, fun y hy => ?_, c, d, e, f, g, k, l, fun w u t hw hu t1 t2 z r hr hr1 => m w u t hw hu t1 t2 z r hr ?_⟩
        · by_cases z : y = p
          · rw [z, up_s]; exact Or.inr rfl
          · rw [up_o (i1_ne (by omega) (by omega) z)]; exact b y hy
        · by_cases z : r = p
          · rw [z, up_s] at hr1; exact absurd hr1 (by decide)
          · rw [up_o (i1_ne (by omega) (by omega) z)] at hr1; exact hr1
      · have w' : X_othersAllCrashed_l2 NF ob NF (n32 p) 0 = some 1 := w
        rw [w', Option.bind_some, if_neg (by decide)]; exact ⟨_, ob, rfl, h, Or.inl ⟨by decide, rfl⟩⟩
    · rw [if_neg l1]; exact ⟨_, ob, rfl, h, Or.inl ⟨by decide, rfl⟩⟩
  · rw [if_neg c0, if_pos rfl]; exact ⟨_, ob, rfl, h, Or.inl ⟨by decide, rfl⟩⟩
theorem b125 (NF : Nat) {n p s : Nat} (hn : n ≤ 8) (hp : p < n) (h1 : 1 ≤ s) (h2 : s ≤ 8) (a : Int32) : ∀ (m fuel : Nat) (ob : Rec) (i : Nat), m < fuel → i ≤ n → n - i ≤ m → gI ob 0 = n32 n →
    ∃ r, X_broadcast_l125 NF fuel ob (n32 p) a (n32 (p * 8 + s - 1)) (n32 i) = some (a, r) ∧ (∀ j, gI r j = gI ob j) ∧ (∀ j, ¬ j = 5 → gA r j = gA ob j) ∧ (∀ q, i ≤ q → q < n → gA r 5 (i5 p s q) = if q = p then 0 else 1) ∧ (∀ u t q, u < 8 → 1 ≤ t → t ≤ 8 → q < 8 → ¬ (u = p ∧ t = s ∧ i ≤ q ∧ q < n) → gA r 5 (i5 u t q) = gA ob 5 (i5 u t q)) := by
  intro m
  induction m with
  | zero =>
    intro fuel ob i hf hi hm h0
    obtain ⟨g, rfl⟩ : ∃ g, fuel = g + 1 := ⟨fuel - 1, by omega⟩
    refine ⟨ob, ?_, fun _ => rfl, fun _ _ => rfl, fun q a b => by omega, fun _ _ _ _ _ _ _ _ => rfl⟩
    show X_broadcast_w125 NF _ ob _ _ _ _ = _
    unfold X_broadcast_w125
    rw [h0, if_neg (fun z => by rw [n32_lt (by omega) (by omega)] at z; omega)]
  | succ m ih =>
    intro fuel ob i hf hi hm h0
    obtain ⟨g, rfl⟩ : ∃ g, fuel = g + 1 := ⟨fuel - 1, by omega⟩
    show ∃ r, X_broadcast_w125 NF (X_broadcast_l125 NF g) ob _ _ _ _ = _ ∧ _
    unfold X_broadcast_w125
    rw [h0]
    by_cases e : i = n
    · rw [if_neg (fun z => by rw [n32_lt (by omega) (by omega)] at z; omega)]
      exact ⟨ob, rfl, fun _ => rfl, fun _ _ => rfl, fun q a b => by omega, fun _ _ _ _ _ _ _ _ => rfl⟩
    · have q1 : ∀ A : Option (Int32 × Rec), chk 512 (i5 p s i) A = A := fun A => k5 (by omega) h1 h2 (by omega)
      have nx : ∀ v : Int32, v = (if i = p then 0 else 1) → ∃ r, X_broadcast_l125 NF g (sA ob 5 (i5 p s i) v) (n32 p) a (n32 (p * 8 + s - 1)) (n32 (i + 1)) = some (a, r) ∧ (∀ j, gI r j = gI ob j) ∧ (∀ j, ¬ j = 5 → gA r j = gA ob j) ∧ (∀ q, i ≤ q → q < n → gA r 5 (i5 p s q) = if q = p then 0 else 1) ∧ (∀ u t q, u < 8 → 1 ≤ t → t ≤ 8 → q < 8 → ¬ (u = p ∧ t = s ∧ i ≤ q ∧ q < n) → gA r 5 (i5 u t q) = gA ob 5 (i5 u t q)) := by
        intro v hv
        obtain ⟨r, r1, r2, r3, r4, r5⟩ := ih g (sA ob 5 (i5 p s i) v) (i + 1) (by omega) (by omega) (by omega) h0
        refine ⟨r, r1, r2, fun j hj => (r3 j hj).trans (gA_n _ hj _ _), fun q a b => ?_, fun u t q hu t1 t2 hq ne => ?_⟩
        · by_cases z : q = i
          · rw [z, r5 p s i (by omega) h1 h2 (by omega) (fun w => by omega), gA_u, up_s]; exact hv
          · exact r4 q (by omega) b
        · rw [r5 u t q hu t1 t2 hq (fun w => ne ⟨w.1, w.2.1, by omega, w.2.2.2⟩), gA_u, up_o (i5_ne hu ⟨t1, t2⟩ hq (by omega) ⟨h1, h2⟩ (by omega) (fun w => ne ⟨w.1, w.2.1, by omega, by omega⟩))]
      rw [if_pos ((n32_lt (by omega) (by omega)).mpr (by omega)), e5' (by omega) h1 h2 (by omega), n32_s (by omega)]
      by_cases c : i = p
      · rw [if_pos (by rw [c]), q1]; exact nx 0 (by rw [if_pos c])
      · rw [if_neg (i1_ne (by omega) (by omega) c), q1]; exact nx 1 (by rw [if_neg c])
theorem b64 (NF : Nat) {n p s : Nat} (hn : n ≤ 8) (hp : p < n) (h1 : 1 ≤ s) (h2 : s ≤ 8) (a : Int32) : ∀ (m fuel : Nat) (ob : Rec) (i : Nat), m < fuel → i ≤ n → n - i ≤ m → gI ob 0 = n32 n →
    ∃ r, X_broadcast_l64 NF fuel ob (n32 p) a (n32 (p * 8 + s - 1)) (n32 i) = ((X_deliverAt (sA r 4 (i5 p s p) a) (n32 p) (n32 p) a).bind fun q5 => X_broadcast_l125 NF NF q5 (n32 p) a (n32 (p * 8 + s - 1)) (0 : Int32)) ∧ (∀ j, gI r j = gI ob j) ∧ (∀ j, ¬ j = 4 → gA r j = gA ob j) ∧ (∀ q, i ≤ q → q < n → gA r 4 (i5 p s q) = gA ob 2 (i2 p q)) ∧ (∀ u t q, u < 8 → 1 ≤ t → t ≤ 8 → q < 8 → ¬ (u = p ∧ t = s ∧ i ≤ q ∧ q < n) → gA r 4 (i5 u t q) = gA ob 4 (i5 u t q)) := by
  have q1 : ∀ i, i < n → ∀ A : Option (Int32 × Rec), chk 512 (i5 p s i) A = A := fun i hi A => k5 (by omega) h1 h2 (by omega)
  intro m
  induction m with
  | zero =>
    intro fuel ob i hf hi hm h0
    obtain ⟨g, rfl⟩ : ∃ g, fuel = g + 1 := ⟨fuel - 1, by omega⟩
    refine ⟨ob, ?_, fun _ => rfl, fun _ _ => rfl, fun q a b => by omega, fun _ _ _ _ _ _ _ _ => rfl⟩
    show X_broadcast_w64 NF _ ob _ _ _ _ = _
    unfold X_broadcast_w64
    rw [h0, if_neg (fun z => by rw [n32_lt (by omega) (by omega)] at z; omega), e5' (by omega) h1 h2 (by omega), q1 p hp]
  | succ m ih =>
    intro fuel ob i hf hi hm h0
    obtain ⟨g, rfl⟩ : ∃ g, fuel = g + 1 := ⟨fuel - 1, by omega⟩
    show ∃ r, X_broadcast_w64 NF (X_broadcast_l64 NF g) ob _ _ _ _ = _ ∧ _
    unfold X_broadcast_w64
    rw [h0]
    by_cases e : i = n
    · rw [if_neg (fun z => by rw [n32_lt (by omega) (by omega)] at z; omega), e5' (by omega) h1 h2 (by omega), q1 p hp]
      exact ⟨ob, rfl, fun _ => rfl, fun _ _ => rfl, fun q a b => by omega, fun _ _ _ _ _ _ _ _ => rfl⟩
    · rw [if_pos ((n32_lt (by omega) (by omega)).mpr (by omega)), e5' (by omega) h1 h2 (by omega), n32_s (by omega), e2 (by omega) (by omega), k2 (by omega) (by omega), q1 i (by omega)]
      obtain ⟨r, r1, r2, r3, r4, r5⟩ := ih g (sA ob 4 (i5 p s i) (gA ob 2 (i2 p i))) (i + 1) (by omega) (by omega) (by omega) h0
      refine ⟨r, r1, r2, fun j hj => (r3 j hj).trans (gA_n _ hj _ _), fun q a b => ?_, fun u t q hu t1 t2 hq ne => ?_⟩
      · by_cases z : q = i
        · rw [z, r5 p s i (by omega) h1 h2 (by omega) (fun w => by omega), gA_u, up_s]
        · rw [r4 q (by omega) b, gA_n _ (by decide)]
      · rw [r5 u t q hu t1 t2 hq (fun w => ne ⟨w.1, w.2.1, by omega, w.2.2.2⟩), gA_u, up_o (i5_ne hu ⟨t1, t2⟩ hq (by omega) ⟨h1, h2⟩ (by omega) (fun w => ne ⟨w.1, w.2.1, by omega, by omega⟩))]
/-- what a broadcast leaves -/
abbrev BR (ob r : Rec) (n p : Nat) : Prop := (gA r 0 = up (gA ob 0) (n32 p) (n32 (sN (gA ob 0) p + 1))) ∧ (gA r 1 = gA ob 1) ∧ (gA r 3 = up (gA ob 3) (i3 p p (sN (gA ob 0) p + 1)) 2) ∧ (gA r 8 = up (gA ob 8) (n32 p) (n32 (sN (gA ob 8) p + 1))) ∧ (∀ u t q, u < 8 → 1 ≤ t → t ≤ 8 → q < n → gA r 5 (i5 u t q) = if u = p ∧ t = sN (gA ob 0) p + 1 then (if q = p then 0 else 1) else gA ob 5 (i5 u t q))
theorem BR.g0 {ob r : Rec} {n p : Nat} (h : BR ob r n p) : gA r 0 = up (gA ob 0) (n32 p) (n32 (sN (gA ob 0) p + 1)) := h.1
theorem BR.g1 {ob r : Rec} {n p : Nat} (h : BR ob r n p) : gA r 1 = gA ob 1 := h.2.1
theorem BR.g3 {ob r : Rec} {n p : Nat} (h : BR ob r n p) : gA r 3 = up (gA ob 3) (i3 p p (sN (gA ob 0) p + 1)) 2 := h.2.2.1
theorem BR.g8 {ob r : Rec} {n p : Nat} (h : BR ob r n p) : gA r 8 = up (gA ob 8) (n32 p) (n32 (sN (gA ob 8) p + 1)) := h.2.2.2.1
theorem BR.g5 {ob r : Rec} {n p : Nat} (h : BR ob r n p) : ∀ u t q, u < 8 → 1 ≤ t → t ≤ 8 → q < n → gA r 5 (i5 u t q) = if u = p ∧ t = sN (gA ob 0) p + 1 then (if q = p then 0 else 1) else gA ob 5 (i5 u t q) := h.2.2.2.2
theorem brd_e (NF : Nat) (hNF : 200 < NF) {ob : Rec} {n cap p : Nat} (h : DI ob n cap) (hn : n ≤ 8) (hc : cap ≤ 8) (hp : p < 100) :
    ∃ a r, X_broadcast NF ob (n32 p) = some (a, r) ∧ DI r n cap ∧ ((a < 0 ∧ r = ob) ∨ (p < n ∧ sN (gA ob 0) p < cap ∧ a = n32 (sN (gA ob 0) p + 1) ∧ BR ob r n p)) := by
  unfold X_broadcast
  rw [vp_e h.1 hn hp, Option.bind_some]
  by_cases c0 : p < n
  · rw [if_pos c0, if_neg (by decide), kp (by clear h; omega)]
    by_cases l1 : gA ob 1 (n32 p) = 0
    · have hS := h.2.2.sS p c0
      have hS2 := hS.2
      rw [if_pos l1, kp (by clear h; omega), h.2.1, hS.1]
      by_cases l2 : sN (gA ob 0) p < cap
      · unfold X_msgIndex
        rw [if_pos ((n32_lt (by clear h; omega) (by clear h; omega)).mpr l2), kp (by clear h; omega), kp (by clear h; omega), Option.bind_some, n32_s (by clear h; omega), em (by clear h; omega) (by clear h; omega) (by clear h; omega)]
        obtain ⟨g0, g1, da⟩ := h
        generalize hs : sN (gA ob 0) p + 1 = s
        have s1' : 1 ≤ s ∧ s ≤ 8 := by clear da; omega
        obtain ⟨r, r1, r2, r3, r4, r5⟩ := b64 NF hn c0 s1'.1 s1'.2 (n32 s) 20 NF (sA ob 0 (n32 p) (n32 s)) 0 (by clear da; omega) (by clear da; omega) (by clear da; omega) g0
        have r1' : X_broadcast_l64 NF NF (sA ob 0 (n32 p) (n32 s)) (n32 p) (n32 s) (n32 (p * 8 + s - 1)) 0 = _ := r1
        have dpp : dN (gA ob 2) p p = sN (gA ob 0) p := da.sO p c0
        have hd := (da.sD p p c0 c0).1
        have l64 := DA_len' da hn hc c0 c0 (show dN (gA ob 2) p p < 8 by clear da; omega)
        have hl := (da.sL p c0).1
        have q2 : gA (sA r 4 (i5 p s p) (n32 s)) 2 = gA ob 2 := by rw [gA_n _ (by decide), r3 2 (by decide), gA_n _ (by decide)]
        have q8 : gA (sA r 4 (i5 p s p) (n32 s)) 8 = gA ob 8 := by rw [gA_n _ (by decide), r3 8 (by decide), gA_n _ (by decide)]
        have dl := dlv_e (ob := sA r 4 (i5 p s p) (n32 s)) (x := p) (o := p) (s := s) (d := dN (gA ob 2) p p) (l := sN (gA ob 8) p) (by clear da; omega) (by clear da; omega) s1'.1 s1'.2 (by rw [q2]; exact hd) (by clear da; omega) (by rw [q8]; exact hl) l64
        rw [r1', dl, Option.bind_some]
        have gi0 : gI (dlr (sA r 4 (i5 p s p) (n32 s)) p p s (dN (gA ob 2) p p) (sN (gA ob 8) p)) 0 = n32 n := (r2 0).trans g0
        obtain ⟨w, w1, w2, w3, w4, w5⟩ := b125 NF hn c0 s1'.1 s1'.2 (n32 s) 20 NF _ 0 (by clear da; omega) (by clear da; omega) (by clear da; omega) gi0
        have w1' : X_broadcast_l125 NF NF (dlr (sA r 4 (i5 p s p) (n32 s)) p p s (dN (gA ob 2) p p) (sN (gA ob 8) p)) (n32 p) (n32 s) (n32 (p * 8 + s - 1)) 0 = _ := w1
        have d1 : dN (gA ob 2) p p + 1 = s := by clear da; omega
        have W0 : gA w 0 = up (gA ob 0) (n32 p) (n32 s) := by rw [w3 0 (by decide), dlr_n _ _ _ _ _ _ (by decide), gA_n _ (by decide), r3 0 (by decide), gA_u]
        have W1 : gA w 1 = gA ob 1 := by rw [w3 1 (by decide), dlr_n _ _ _ _ _ _ (by decide), gA_n _ (by decide), r3 1 (by decide), gA_n _ (by decide)]
        have W2 : gA w 2 = up (gA ob 2) (i2 p p) (n32 s) := by rw [w3 2 (by decide), dlr_2, q2, d1]
        have W3 : gA w 3 = up (gA ob 3) (i3 p p s) 2 := by rw [w3 3 (by decide), dlr_3, gA_n _ (by decide), r3 3 (by decide), gA_n _ (by decide)]
        have W4 : gA w 4 = up (gA r 4) (i5 p s p) (n32 s) := by rw [w3 4 (by decide), dlr_n _ _ _ _ _ _ (by decide), gA_u]
        have W6 : gA w 6 = up (gA ob 6) (i6 p p p) (n32 s) := by rw [w3 6 (by decide), dlr_6, gA_n _ (by decide), r3 6 (by decide), gA_n _ (by decide), d1]
        have W7 : gA w 7 = up (gA ob 7) (i7 p (sN (gA ob 8) p)) (n32 (p * 16 + s)) := by rw [w3 7 (by decide), dlr_7, gA_n _ (by decide), r3 7 (by decide), gA_n _ (by decide)]
        have W8 : gA w 8 = up (gA ob 8) (n32 p) (n32 (sN (gA ob 8) p + 1)) := by rw [w3 8 (by decide), dlr_8, q8]
        have o5 : ∀ u t q, gA (dlr (sA r 4 (i5 p s p) (n32 s)) p p s (dN (gA ob 2) p p) (sN (gA ob 8) p)) 5 (i5 u t q) = gA ob 5 (i5 u t q) := fun u t q => by rw [dlr_n _ _ _ _ _ _ (by decide), gA_n _ (by decide), r3 5 (by decide), gA_n _ (by decide)]
        have W5 : ∀ u t q, u < 8 → 1 ≤ t → t ≤ 8 → q < n → gA w 5 (i5 u t q) = if u = p ∧ t = s then (if q = p then 0 else 1) else gA ob 5 (i5 u t q) := fun u t q hu t1 t2 hq => by
          by_cases z : u = p ∧ t = s
          · rw [if_pos z, z.1, z.2]; exact w4 q (by clear da; omega) hq
          · rw [if_neg z, w5 u t q hu t1 t2 (by clear da; omega) (fun y => z ⟨y.1, y.2.1⟩), o5]
        have sb0 : sN (up (gA ob 0) (n32 p) (n32 s)) p = s := by
          show ((up (gA ob 0) (n32 p) (n32 s)) (n32 p)).toInt.toNat = s
          rw [up_s, nt s (by clear da; omega)]; rfl
        have sbo : ∀ u, u < n → ¬ u = p → (up (gA ob 0) (n32 p) (n32 s)) (n32 u) = gA ob 0 (n32 u) := fun u hu ne => up_o (i1_ne (by clear da; omega) (by clear da; omega) ne)
        have sbo' : ∀ u, u < n → ¬ u = p → sN (up (gA ob 0) (n32 p) (n32 s)) u = sN (gA ob 0) u := fun u hu ne => by unfold sN; rw [sbo u hu ne]
        refine ⟨_, w, w1', ⟨(w2 0).trans gi0, (w2 1).trans ((r2 1).trans g1), ?_⟩, Or.inr ⟨c0, l2, rfl, ⟨by rw [hs]; exact W0, W1, by rw [hs]; exact W3, W8, by rw [hs]; exact W5⟩⟩⟩
        rw [W0, W1, W2, W3, W4, W6, W7, W8]
        refine DA_dl da hn hc c0 c0 d1.symm (by rw [sb0]; exact Nat.le_refl _) (fun u hu => ?_) (fun y hy ne => ?_) (fun _ => sb0) (fun u t q hu t1 t2 hq => ?_) (fun q hq ne => ?_) (fun u t q hu t1 t2 hq => ?_)
        · by_cases z : u = p
          · rw [z, sb0, up_s]; exact ⟨rfl, by clear da; omega, by clear da; omega⟩
          · rw [sbo u hu z, sbo' u hu z]; exact ⟨(da.sS u hu).1, (da.sS u hu).2, Nat.le_refl _⟩
        · exact sbo' y hy (fun z => ne ⟨z, rfl⟩)
        · have ne : ¬ (u = p ∧ t = s) := fun z => by rw [z.1] at t2; clear da; omega
          have tu := (da.sS u hu).2
          unfold stN
          rw [up_o (i5_ne (by clear da; omega) ⟨t1, by clear da; omega⟩ (by clear da; omega) (by clear da; omega) s1' (by clear da; omega) (fun z => ne ⟨z.1, z.2.1⟩)), r5 u t q (by clear da; omega) t1 (by clear da; omega) (by clear da; omega) (fun z => ne ⟨z.1, z.2.1⟩), gA_n _ (by decide)]
        · unfold stN
          rw [up_o (i5_ne (by clear da; omega) s1' (by clear da; omega) (by clear da; omega) s1' (by clear da; omega) (fun z => ne z.2.2)), r4 q (by clear da; omega) hq, gA_n _ (by decide), (da.sD p q c0 hq).1]
          have b1 := (da.sD p q c0 hq).2
          have b2 := (da.sS q hq).2
          rw [nt _ (by clear da; omega)]
          exact Int.le_refl _
        · have hP := da.sP u t q hu t1 t2 hq
          unfold pN
          rw [W5 u t q (by clear da; omega) t1 t2 hq]
          by_cases z : u = p ∧ t = s
          · rw [if_pos z]
            by_cases y : q = p
            · rw [if_pos y]; exact ⟨rfl, by decide, fun _ => rfl⟩
            · rw [if_neg y]; exact ⟨rfl, by decide, fun x => by rw [z.1, z.2, sb0] at x; clear da hP; omega⟩
          · rw [if_neg z]
            refine ⟨hP.1, hP.2.1, fun x => hP.2.2 ?_⟩
            by_cases y : u = p
            · rw [y, sb0] at x; rw [y]; clear da hP; omega
            · rw [sbo' u hu y] at x; exact x
      · rw [if_neg (fun z => l2 ((n32_lt (by clear h; omega) (by clear h; omega)).mp z))]; exact ⟨_, ob, rfl, h, Or.inl ⟨by decide, rfl⟩⟩
    · rw [if_neg l1]; exact ⟨_, ob, rfl, h, Or.inl ⟨by decide, rfl⟩⟩
  · rw [if_neg c0, if_pos rfl]; exact ⟨_, ob, rfl, h, Or.inl ⟨by decide, rfl⟩⟩
/-- a new object -/
theorem ini_e {n cap : Nat} (h1 : 2 ≤ n ∧ n ≤ 8) (h2 : 1 ≤ cap ∧ cap ≤ 8) : ∃ r, X_init (n32 n) (n32 cap) = some r ∧ DI r n cap ∧ (∀ j x, gA r j x = 0) := by
  have n1 : ¬ n32 n < 2 := by rw [lt_i, nt n (by omega)]; show ¬ (n : Int) < 2; omega
  have n2 : ¬ (8 : Int32) < n32 n := by rw [lt_i, nt n (by omega)]; show ¬ (8 : Int) < n; omega
  have c1 : ¬ n32 cap < 1 := by rw [lt_i, nt cap (by omega)]; show ¬ (cap : Int) < 1; omega
  have c2 : ¬ (8 : Int32) < n32 cap := by rw [lt_i, nt cap (by omega)]; show ¬ (8 : Int) < cap; omega
  unfold X_init; rw [if_neg n1]
  unfold X_init_b90; rw [if_neg n2]
  unfold X_init_b99; rw [if_neg c1]
  unfold X_init_b116; rw [if_neg c2]
  generalize hr : sI (sI zrec 0 (n32 n)) 1 (n32 cap) = r
  have rA : ∀ j, gA r j = fun _ => 0 := fun j => by rw [← hr]; rfl
  refine ⟨r, rfl, ⟨by rw [← hr]; rfl, by rw [← hr]; rfl, ?_⟩, fun j x => by rw [rA]⟩
  simp only [rA]
  have z1 : ∀ o, sN (fun _ => 0) o = 0 := fun _ => rfl
  have z2 : ∀ x o, dN (fun _ => 0) x o = 0 := fun _ _ => rfl
  have z3 : ∀ x o s, tS (fun _ => 0) x o s = 0 := fun _ _ _ => rfl
  have zs : ∀ n, sm (fun _ => 0) n = 0 := fun n => by
    induction n with
    | zero => rfl
    | succ n ih => show sm (fun _ => 0) n + 0 = 0; rw [ih]
  refine ⟨fun _ _ => ⟨rfl, Nat.zero_le _⟩, fun _ _ => Or.inl rfl, fun _ _ _ _ => ⟨rfl, Nat.zero_le _⟩, fun _ _ => rfl, fun x o s _ _ s1' _ => ⟨Or.inl rfl, ⟨fun z => ?_, fun z => ?_⟩, fun _ => rfl⟩, fun _ _ _ _ _ _ _ => ⟨rfl, Nat.zero_le _, fun _ => rfl⟩, fun _ _ _ _ _ _ => ⟨rfl, Nat.zero_le _, rfl⟩, fun x _ => ⟨rfl, (zs n).symm, fun _ _ => rfl⟩, fun x i _ hi => absurd hi (Nat.not_lt_zero i), fun q o s _ _ _ _ z => absurd z (by rw [z3]; decide)⟩
  · rw [z3] at z; rcases z with z | z <;> exact absurd z (by decide)
  · rw [z2] at z; omega
/- the getters -/
theorem g_cop {ob : Rec} {n cap o s q : Nat} (h : DI ob n cap) (hn : n ≤ 8) (hc : cap ≤ 8) (ho : o < n) (h1 : 1 ≤ s) (h2 : s ≤ 8) (hq : q < n) : X_copies ob (n32 o) (n32 s) (n32 q) = some (if s ≤ sN (gA ob 0) o then n32 (pN (gA ob 5) o s q) else -1) := by
  unfold X_copies
  by_cases c : s ≤ sN (gA ob 0) o
  · unfold X_copyIndex
    rw [ex_y h hn hc ho h1 c, Option.bind_some, if_neg (by decide), vp_e h.1 hn (by clear h; omega), Option.bind_some, if_pos hq, if_neg (by decide), Option.bind_some, e5 (by clear h; omega) h1 h2 (by clear h; omega), k5 (by clear h; omega) h1 h2 (by clear h; omega), if_pos c, (h.2.2.sP o s q ho h1 h2 hq).1]
  · rw [ex_n h hn hc (by clear h; omega) (by clear h; omega) (fun z => c z.2.2), Option.bind_some, if_pos rfl, if_neg c]
theorem g_sta {ob : Rec} {n cap x o s : Nat} (h : DI ob n cap) (hn : n ≤ 8) (hc : cap ≤ 8) (hx : x < n) (ho : o < n) (h1 : 1 ≤ s) (h2 : s ≤ 8) : X_state ob (n32 x) (n32 o) (n32 s) = some (if s ≤ sN (gA ob 0) o then tS (gA ob 3) x o s else -1) := by
  unfold X_state
  rw [vp_e h.1 hn (by clear h; omega), Option.bind_some, if_pos hx, if_neg (by decide)]
  by_cases c : s ≤ sN (gA ob 0) o
  · unfold X_stateIndex
    rw [ex_y h hn hc ho h1 c, Option.bind_some, if_neg (by decide), Option.bind_some, e3 (by clear h; omega) (by clear h; omega) h1 (by clear h; omega), k3 (by clear h; omega) (by clear h; omega) h1 h2, if_pos c]; rfl
  · rw [ex_n h hn hc (by clear h; omega) (by clear h; omega) (fun z => c z.2.2), Option.bind_some, if_pos rfl, if_neg c]
theorem g_snt {ob : Rec} {n cap o : Nat} (h : DI ob n cap) (hn : n ≤ 8) (ho : o < n) : X_sent ob (n32 o) = some (n32 (sN (gA ob 0) o)) := by
  unfold X_sent
  rw [vp_e h.1 hn (by clear h; omega), Option.bind_some, if_pos ho, if_neg (by decide), kp (by clear h; omega), (h.2.2.sS o ho).1]
theorem g_crs {ob : Rec} {n cap p : Nat} (h : DI ob n cap) (hn : n ≤ 8) (hp : p < n) : X_isCrashed ob (n32 p) = some (gA ob 1 (n32 p)) := by
  unfold X_isCrashed
  rw [vp_e h.1 hn (by clear h; omega), Option.bind_some, if_pos hp, if_neg (by decide), kp (by clear h; omega)]
  rcases h.2.2.sC p hp with e | e <;> rw [e] <;> rfl
theorem g_del {ob : Rec} {n cap x o : Nat} (h : DI ob n cap) (hn : n ≤ 8) (hx : x < n) (ho : o < n) : X_delivered ob (n32 x) (n32 o) = some (n32 (dN (gA ob 2) x o)) := by
  unfold X_delivered
  rw [vp_e h.1 hn (by clear h; omega), Option.bind_some, if_pos hx, if_neg (by decide), vp_e h.1 hn (by clear h; omega), Option.bind_some, if_pos ho, if_neg (by decide), e2 (by clear h; omega) (by clear h; omega), k2 (by clear h; omega) (by clear h; omega), (h.2.2.sD x o hx ho).1]
theorem g_kno {ob : Rec} {n cap p q o : Nat} (h : DI ob n cap) (hn : n ≤ 8) (hp : p < n) (hq : q < n) (ho : o < n) : X_known ob (n32 p) (n32 q) (n32 o) = some (n32 (kwN (gA ob 6) p q o)) := by
  unfold X_known X_knownIndex
  rw [vp_e h.1 hn (by clear h; omega), Option.bind_some, if_pos hp, if_neg (by decide), vp_e h.1 hn (by clear h; omega), Option.bind_some, if_pos hq, if_neg (by decide), vp_e h.1 hn (by clear h; omega), Option.bind_some, if_pos ho, if_neg (by decide), Option.bind_some, e6 (by clear h; omega) (by clear h; omega) (by clear h; omega), k6 (by clear h; omega) (by clear h; omega) (by clear h; omega), (h.2.2.sK p q o hp hq ho).1]
theorem g_dat {ob : Rec} {n cap x i : Nat} (h : DI ob n cap) (hn : n ≤ 8) (hc : cap ≤ 8) (hx : x < n) (hi : i < 200) : X_deliveredAt ob (n32 x) (n32 i) = some (if i < sN (gA ob 8) x then n32 (cd (gA ob 7) x i) else -1) := by
  have l64 := DA_len h.2.2 hn hc hx
  unfold X_deliveredAt
  rw [vp_e h.1 hn (by clear h; omega), Option.bind_some, if_pos hx, if_neg (by decide), if_neg (nneg (n32_b (by clear h; omega)).1), kp (by clear h; omega), (h.2.2.sL x hx).1]
  by_cases c : i < sN (gA ob 8) x
  · rw [if_pos ((n32_lt (by clear h; omega) (by clear h; omega)).mpr c), if_pos (by rw [lt_i, nt i (by clear h; omega)]; show (i : Int) < 64; clear h; omega), e7 (by clear h; omega) (by clear h; omega), k7 (by clear h; omega) (by clear h; omega), if_pos c, (h.2.2.sE x i hx c).1]
  · rw [if_neg (fun z => c ((n32_lt (by clear h; omega) (by clear h; omega)).mp z)), if_neg c]
-- USE: bits pga0 nn cda cdb cdc cdd cde
def pq2 (a b c : Nat) : Int64 := Int64.ofNat (a + 16 * b + 256 * c)
def pk3 (a b c : Nat) : Int64 := Int64.ofNat (a + 256 * b + 65536 * c)
def sel (x a b c : Nat) : Nat := if x = 0 then a else if x = 1 then b else c
theorem pq2_g : ∀ x ∈ List.range 3, ∀ a ∈ List.range 5, ∀ b ∈ List.range 5, ∀ c ∈ List.range 5, ((pq2 a b c >>> (((4 : Int32) * n32 x) &&& 0x3f).toInt64) &&& (15 : Int64)) = Int64.ofNat (sel x a b c) := by decide +kernel
theorem pk3_g : ∀ x ∈ List.range 3, ∀ a ∈ List.range 13, ∀ b ∈ List.range 13, ∀ c ∈ List.range 13, ((pk3 a b c >>> (((8 : Int32) * n32 x) &&& 0x3f).toInt64) &&& (255 : Int64)) = Int64.ofNat (sel x a b c) := by decide +kernel
theorem of_i32 : ∀ a ∈ List.range 13, (Int64.ofNat a).toInt32 = n32 a ∧ (n32 (a + 1)).toInt64 = Int64.ofNat a + 1 := by decide +kernel
theorem sh4 : ∀ x ∈ List.range 3, ((1 : Int64) <<< (((4 : Int32) * n32 x) &&& 0x3f).toInt64) = Int64.ofNat (16 ^ x) := by decide +kernel
theorem sh8 : ∀ x ∈ List.range 3, ∀ r ∈ List.range 66, ((n32 r).toInt64 <<< (((8 : Int32) * n32 x) &&& 0x3f).toInt64) = Int64.ofNat (r * 256 ^ x) := by decide +kernel
theorem sh8' : ∀ x ∈ List.range 3, ((1 : Int64) <<< (((8 : Int32) * n32 x) &&& 0x3f).toInt64) = Int64.ofNat (1 * 256 ^ x) := by decide +kernel
theorem x3 {x : Nat} (h : x < 3) : x = 0 ∨ x = 1 ∨ x = 2 := by omega
theorem pq2_u {S T : Nat → Nat} {p : Nat} (hp : p < 3) (h1 : T p = S p + 1) (h2 : ∀ y, y < 3 → ¬ y = p → T y = S y) : pq2 (S 0) (S 1) (S 2) + ((1 : Int64) <<< (((4 : Int32) * n32 p) &&& 0x3f).toInt64) = pq2 (T 0) (T 1) (T 2) := by
  rw [sh4 p (List.mem_range.mpr hp)]
  unfold pq2
  rw [← Int64.ofNat_add]
  congr 1
  rcases x3 hp with e | e | e
  · rw [e] at h1 h2 ⊢; rw [h1, h2 1 (by omega) (by omega), h2 2 (by omega) (by omega)]; omega
  · rw [e] at h1 h2 ⊢; rw [h1, h2 0 (by omega) (by omega), h2 2 (by omega) (by omega)]; omega
  · rw [e] at h1 h2 ⊢; rw [h1, h2 0 (by omega) (by omega), h2 1 (by omega) (by omega)]; omega
theorem pk3_u {S T : Nat → Nat} {p c : Nat} (hp : p < 3) (h1 : T p = S p + c) (h2 : ∀ y, y < 3 → ¬ y = p → T y = S y) : pk3 (S 0) (S 1) (S 2) + Int64.ofNat (c * 256 ^ p) = pk3 (T 0) (T 1) (T 2) := by
  unfold pk3
  rw [← Int64.ofNat_add]
  congr 1
  rcases x3 hp with e | e | e
  · rw [e] at h1 h2 ⊢; rw [h1, h2 1 (by omega) (by omega), h2 2 (by omega) (by omega)]; omega
  · rw [e] at h1 h2 ⊢; rw [h1, h2 0 (by omega) (by omega), h2 2 (by omega) (by omega)]; omega
  · rw [e] at h1 h2 ⊢; rw [h1, h2 0 (by omega) (by omega), h2 1 (by omega) (by omega)]; omega
theorem sel_e (S : Nat → Nat) {x : Nat} (h : x < 3) : sel x (S 0) (S 1) (S 2) = S x := by
  rcases x3 h with e | e | e <;> rw [e] <;> rfl
def cbt (i x : Int32) : Bool := decide ((i >>> (x &&& 31)) &&& 1 = 1)
abbrev M7 : List Int32 := [0, 1, 2, 3, 4, 5, 6]
theorem cm_u : ∀ i ∈ M7, ∀ p ∈ List.range 3, ∀ q ∈ List.range 3, ¬ q = p → cbt i (n32 q) = false → (i ||| ((1 : Int32) <<< (n32 p &&& 31))) ∈ M7 := by decide +kernel
theorem cm_t : ∀ i ∈ M7, ∀ p ∈ List.range 3, ∀ t ∈ List.range 3, cbt (i ||| ((1 : Int32) <<< (n32 p &&& 31))) (n32 t) = (decide (t = p) || cbt i (n32 t)) := by decide +kernel
def cs (a : Fn) : Nat := sm (fun k => pN a (k / 12) ((k / 3) % 4 + 1) (k % 3)) 36
def pcN (a : Fn) : Nat := cN (fun k => decide (tS a (k % 3) (k / 12) ((k / 3) % 4 + 1) = 3)) 36
theorem n32_div {k m : Nat} (hk : k < 100) (hm : 0 < m ∧ m < 100) : n32 k / n32 m = n32 (k / m) := by
  have : k / m ≤ k := Nat.div_le_self k m
  refine eq_i32.mpr ?_
  rw [dv (by rw [nt k (by omega)]; omega) (by rw [nt m (by omega)]; omega), nt k (by omega), nt m (by omega), nt _ (by omega)]; exact (Int.natCast_ediv k m).symm
theorem n32_mod {k m : Nat} (hk : k < 100) (hm : 0 < m ∧ m < 100) : n32 k % n32 m = n32 (k % m) := by
  have : k % m < m := Nat.mod_lt k hm.1
  refine eq_i32.mpr ?_
  rw [md (by rw [nt k (by omega)]; omega) (by rw [nt m (by omega)]; omega), nt k (by omega), nt m (by omega), nt _ (by omega)]; exact (Int.natCast_emod k m).symm
theorem dec36 {k : Nat} (hk : k < 36) : n32 k / 12 = n32 (k / 12) ∧ n32 k / 3 % 4 + 1 = n32 (k / 3 % 4 + 1) ∧ n32 k % 3 = n32 (k % 3) := by
  refine ⟨n32_div (m := 12) (by omega) (by omega), ?_, n32_mod (m := 3) (by omega) (by omega)⟩
  have a : n32 k / 3 = n32 (k / 3) := n32_div (m := 3) (by omega) (by omega)
  have b : n32 (k / 3) % 4 = n32 (k / 3 % 4) := n32_mod (m := 4) (by omega) (by omega)
  rw [a, b, n32_s (by omega)]
theorem sm_p {f : Nat → Nat} {c : Nat} : ∀ n, (∀ i, i < n → f i ≤ c) → sm f n ≤ n * c := sm_b
theorem cs_l (NF : Nat) {ob : Rec} (h : DI ob 3 4) : ∀ (m fuel i : Nat), m < fuel → i ≤ 36 → 36 - i ≤ m → L_copySum_l4 NF ob fuel (n32 (sm (fun k => pN (gA ob 5) (k / 12) ((k / 3) % 4 + 1) (k % 3)) i)) (n32 i) = some (n32 (cs (gA ob 5))) := by
  intro m
  induction m with
  | zero =>
    intro fuel i hf hi hm
    obtain ⟨g, rfl⟩ : ∃ g, fuel = g + 1 := ⟨fuel - 1, by clear h; omega⟩
    have e : i = 36 := by clear h; omega
    rw [e]
    show L_copySum_w4 NF ob _ _ _ = _
    unfold L_copySum_w4
    rw [if_neg (by decide)]; rfl
  | succ m ih =>
    intro fuel i hf hi hm
    obtain ⟨g, rfl⟩ : ∃ g, fuel = g + 1 := ⟨fuel - 1, by clear h; omega⟩
    show L_copySum_w4 NF ob (L_copySum_l4 NF ob g) _ _ = _
    by_cases e : i = 36
    · rw [e]; unfold L_copySum_w4
      rw [if_neg (by decide)]; rfl
    · have i36 : i < 36 := by clear h; omega
      have hP := h.2.2.sP (i / 12) (i / 3 % 4 + 1) (i % 3) (by clear h; omega) (by clear h; omega) (by clear h; omega) (by clear h; omega)
      have p3 := hP.2.1
      have hb := sm_b (f := fun k => pN (gA ob 5) (k / 12) ((k / 3) % 4 + 1) (k % 3)) (c := 3) i (fun k hk => (h.2.2.sP (k / 12) (k / 3 % 4 + 1) (k % 3) (by clear h; omega) (by clear h; omega) (by clear h; omega) (by clear h; omega)).2.1)
      unfold L_copySum_w4
      rw [if_pos (by rw [lt_i, nt i (by clear h; omega)]; show (i : Int) < 36; clear h; omega), (dec36 i36).1, (dec36 i36).2.1, (dec36 i36).2.2, g_cop h (by decide) (by decide) (by clear h; omega) (by clear h; omega) (by clear h; omega) (by clear h; omega), Option.bind_some, n32_s (by clear h; omega)]
      have nx := ih g (i + 1) (by clear h; omega) (by clear h; omega) (by clear h; omega)
      have e1 : sm (fun k => pN (gA ob 5) (k / 12) ((k / 3) % 4 + 1) (k % 3)) (i + 1) = sm (fun k => pN (gA ob 5) (k / 12) ((k / 3) % 4 + 1) (k % 3)) i + pN (gA ob 5) (i / 12) (i / 3 % 4 + 1) (i % 3) := rfl
      rw [e1] at nx
      by_cases c : i / 3 % 4 + 1 ≤ sN (gA ob 0) (i / 12)
      · rw [if_pos c]
        by_cases d : pN (gA ob 5) (i / 12) (i / 3 % 4 + 1) (i % 3) = 0
        · rw [d] at nx ⊢
          rw [if_neg (by decide)]; exact nx
        · rw [if_pos (by rw [lt_i, nt _ (by clear h; omega)]; show (0 : Int) < _; clear h; omega), n32_add (by clear h; omega) (by clear h; omega)]; exact nx
      · rw [hP.2.2 (by clear h; omega)] at nx
        rw [if_neg c, if_neg (by decide)]; exact nx
theorem pc_l (NF : Nat) {ob : Rec} (h : DI ob 3 4) : ∀ (m fuel i : Nat), m < fuel → i ≤ 36 → 36 - i ≤ m → L_prunedCount_l4 NF ob fuel (n32 (cN (fun k => decide (tS (gA ob 3) (k % 3) (k / 12) ((k / 3) % 4 + 1) = 3)) i)) (n32 i) = some (n32 (pcN (gA ob 3))) := by
  intro m
  induction m with
  | zero =>
    intro fuel i hf hi hm
    obtain ⟨g, rfl⟩ : ∃ g, fuel = g + 1 := ⟨fuel - 1, by clear h; omega⟩
    have e : i = 36 := by clear h; omega
    rw [e]
    show L_prunedCount_w4 NF ob _ _ _ = _
    unfold L_prunedCount_w4
    rw [if_neg (by decide)]; rfl
  | succ m ih =>
    intro fuel i hf hi hm
    obtain ⟨g, rfl⟩ : ∃ g, fuel = g + 1 := ⟨fuel - 1, by clear h; omega⟩
    show L_prunedCount_w4 NF ob (L_prunedCount_l4 NF ob g) _ _ = _
    by_cases e : i = 36
    · rw [e]; unfold L_prunedCount_w4
      rw [if_neg (by decide)]; rfl
    · have i36 : i < 36 := by clear h; omega
      have hT := (h.2.2.sT (i % 3) (i / 12) (i / 3 % 4 + 1) (by clear h; omega) (by clear h; omega) (by clear h; omega) (by clear h; omega)).2.2
      have hb := cN_b (fun k => decide (tS (gA ob 3) (k % 3) (k / 12) ((k / 3) % 4 + 1) = 3)) i
      unfold L_prunedCount_w4
      rw [if_pos (by rw [lt_i, nt i (by clear h; omega)]; show (i : Int) < 36; clear h; omega), (dec36 i36).1, (dec36 i36).2.1, (dec36 i36).2.2, g_sta h (by decide) (by decide) (by clear h; omega) (by clear h; omega) (by clear h; omega) (by clear h; omega), Option.bind_some, n32_s (i := i) (by clear h; omega)]
      have nx := ih g (i + 1) (by clear h; omega) (by clear h; omega) (by clear h; omega)
      have e1 : cN (fun k => decide (tS (gA ob 3) (k % 3) (k / 12) ((k / 3) % 4 + 1) = 3)) (i + 1) = cN (fun k => decide (tS (gA ob 3) (k % 3) (k / 12) ((k / 3) % 4 + 1) = 3)) i + (if decide (tS (gA ob 3) (i % 3) (i / 12) ((i / 3) % 4 + 1) = 3) = true then 1 else 0) := rfl
      rw [e1] at nx
      by_cases c : i / 3 % 4 + 1 ≤ sN (gA ob 0) (i / 12)
      · rw [if_pos c]
        by_cases d : tS (gA ob 3) (i % 3) (i / 12) (i / 3 % 4 + 1) = 3
        · rw [decide_eq_true d, if_pos rfl] at nx
          rw [if_pos d, n32_s (by clear h; omega)]; exact nx
        · rw [decide_eq_false d, if_neg (by decide), Nat.add_zero] at nx
          rw [if_neg d]; exact nx
      · rw [hT (by clear h; omega), decide_eq_false (by decide), if_neg (by decide), Nat.add_zero] at nx
        rw [if_neg c, if_neg (by decide)]; exact nx
theorem lenb {ob : Rec} (h : DI ob 3 4) {x : Nat} (hx : x < 3) : sN (gA ob 8) x < 13 := by
  rw [(h.2.2.sL x hx).2.1]
  have := sm_b (f := dN (gA ob 2) x) (c := 4) 3 (fun i hi => Nat.le_trans (h.2.2.sD x i hx hi).2 (h.2.2.sS i hi).2)
  clear h; omega
theorem po_l (NF : Nat) {ob : Rec} (h : DI ob 3 4) {x : Nat} (hx : x < 3) : ∀ (m fuel i : Nat), m < fuel → i ≤ 3 → 3 - i ≤ m → L_procOk_l57 NF ob fuel (n32 x) (n32 (sN (gA ob 8) x)) (n32 (sm (dN (gA ob 2) x) i)) (n32 i) = some 1 := by
  have stop : ∀ kk, L_procOk_w57 NF ob kk (n32 x) (n32 (sN (gA ob 8) x)) (n32 (sm (dN (gA ob 2) x) 3)) (n32 3) = some 1 := by
    intro kk
    unfold L_procOk_w57
    rw [if_neg (by decide), if_pos (by rw [(h.2.2.sL x hx).2.1])]
  intro m
  induction m with
  | zero =>
    intro fuel i hf hi hm
    obtain ⟨g, rfl⟩ : ∃ g, fuel = g + 1 := ⟨fuel - 1, by clear h; omega⟩
    have e : i = 3 := by clear h; omega
    rw [e]; exact stop _
  | succ m ih =>
    intro fuel i hf hi hm
    obtain ⟨g, rfl⟩ : ∃ g, fuel = g + 1 := ⟨fuel - 1, by clear h; omega⟩
    by_cases e : i = 3
    · rw [e]; exact stop _
    · have i3 : i < 3 := by clear h; omega
      have hD := (h.2.2.sD x i hx i3).2
      have hS := (h.2.2.sS i i3).2
      have hb := sm_b (f := dN (gA ob 2) x) (c := 4) i (fun k hk => Nat.le_trans (h.2.2.sD x k hx (by clear h; omega)).2 (h.2.2.sS k (by clear h; omega)).2)
      show L_procOk_w57 NF ob (L_procOk_l57 NF ob g) _ _ _ _ = _
      unfold L_procOk_w57
      rw [if_pos (by rw [lt_i, nt i (by clear h; omega)]; show (i : Int) < 3; clear h; omega), g_del h (by decide) hx i3, Option.bind_some, g_snt h (by decide) i3, Option.bind_some, g_kno h (by decide) hx hx i3, Option.bind_some, if_neg (nneg (n32_b (by clear h; omega)).1), if_neg (fun z => by rw [n32_lt (by clear h; omega) (by clear h; omega)] at z; clear h; omega), if_pos (by rw [(h.2.2.sK x x i hx hx i3).2.2]), n32_add (by clear h; omega) (by clear h; omega), n32_s (by clear h; omega)]
      exact ih g (i + 1) (by clear h; omega) (by clear h; omega) (by clear h; omega)
theorem po_e (NF : Nat) (hNF : 200 < NF) {ob : Rec} (h : DI ob 3 4) {x : Nat} (hx : x < 3) : L_procOk NF ob (n32 x) (n32 (sN (gA ob 0) x)) (n32 (sN (gA ob 8) x)) (gA ob 1 (n32 x)) = some 1 := by
  have lb := lenb h hx
  unfold L_procOk
  rw [g_snt h (by decide) hx, Option.bind_some, if_pos rfl, g_crs h (by decide) hx, Option.bind_some, if_pos rfl, g_dat h (by decide) (by decide) hx (by clear h; omega), Option.bind_some, if_neg (show ¬ sN (gA ob 8) x < sN (gA ob 8) x by clear h; omega), if_pos rfl]
  have fin := po_l NF h hx 20 NF 0 (by clear h; omega) (by clear h; omega) (by clear h; omega)
  have fin' : L_procOk_l57 NF ob NF (n32 x) (n32 (sN (gA ob 8) x)) 0 0 = some 1 := fin
  by_cases c : 0 < sN (gA ob 8) x
  · have hE := h.2.2.sE x (sN (gA ob 8) x - 1) hx (by clear h; omega)
    have e1 : n32 (sN (gA ob 8) x) - 1 = n32 (sN (gA ob 8) x - 1) := by
      obtain ⟨k, hk⟩ : ∃ k, sN (gA ob 8) x = k + 1 := ⟨sN (gA ob 8) x - 1, by clear h hE; omega⟩
      rw [hk, n32_p (by clear h hE; omega)]; rfl
    have hm := hE.2.2.1
    have hq := hE.2.1
    rw [if_pos (by rw [lt_i, nt _ (by clear h hE; omega)]; show (0 : Int) < _; clear h hE; omega), e1, g_dat h (by decide) (by decide) hx (by clear h hE; omega), Option.bind_some, if_pos (show sN (gA ob 8) x - 1 < sN (gA ob 8) x by clear h hE; omega), if_neg (by rw [lt_i, nt _ (by clear h hE; omega)]; show ¬ ((cd (gA ob 7) x (sN (gA ob 8) x - 1) : Nat) : Int) < 1; clear h hE; omega)]
    exact fin'
  · rw [if_neg (by rw [lt_i, nt _ (by clear h; omega)]; show ¬ (0 : Int) < _; clear h; omega)]
    exact fin'
abbrev St (ob : Rec) (l2 l4 : Int64) (x6 x7 x8 : Int32) : Prop := (DI ob 3 4) ∧ (l2 = pq2 (sN (gA ob 0) 0) (sN (gA ob 0) 1) (sN (gA ob 0) 2)) ∧ (l4 = pk3 (sN (gA ob 8) 0) (sN (gA ob 8) 1) (sN (gA ob 8) 2)) ∧ (x6 = n32 (cs (gA ob 5))) ∧ (x7 = n32 (pcN (gA ob 3))) ∧ (x8 ∈ M7) ∧ (∀ x, x < 3 → cbt x8 (n32 x) = decide (gA ob 1 (n32 x) = 1))
theorem St.di {ob : Rec} {l2 l4 : Int64} {x6 x7 x8 : Int32} (h : St ob l2 l4 x6 x7 x8) : DI ob 3 4 := h.1
theorem St.q2 {ob : Rec} {l2 l4 : Int64} {x6 x7 x8 : Int32} (h : St ob l2 l4 x6 x7 x8) : l2 = pq2 (sN (gA ob 0) 0) (sN (gA ob 0) 1) (sN (gA ob 0) 2) := h.2.1
theorem St.q4 {ob : Rec} {l2 l4 : Int64} {x6 x7 x8 : Int32} (h : St ob l2 l4 x6 x7 x8) : l4 = pk3 (sN (gA ob 8) 0) (sN (gA ob 8) 1) (sN (gA ob 8) 2) := h.2.2.1
theorem St.q6 {ob : Rec} {l2 l4 : Int64} {x6 x7 x8 : Int32} (h : St ob l2 l4 x6 x7 x8) : x6 = n32 (cs (gA ob 5)) := h.2.2.2.1
theorem St.q7 {ob : Rec} {l2 l4 : Int64} {x6 x7 x8 : Int32} (h : St ob l2 l4 x6 x7 x8) : x7 = n32 (pcN (gA ob 3)) := h.2.2.2.2.1
theorem St.m8 {ob : Rec} {l2 l4 : Int64} {x6 x7 x8 : Int32} (h : St ob l2 l4 x6 x7 x8) : x8 ∈ M7 := h.2.2.2.2.2.1
theorem St.q8 {ob : Rec} {l2 l4 : Int64} {x6 x7 x8 : Int32} (h : St ob l2 l4 x6 x7 x8) : ∀ x, x < 3 → cbt x8 (n32 x) = decide (gA ob 1 (n32 x) = 1) := h.2.2.2.2.2.2
abbrev K8 : Type := Rec → Int64 → Int64 → Int32 → Int32 → Int32 → Int32 → Option Int32
abbrev NX (k : K8) (i9 : Int32) : Prop := ∀ ob l2 l4 x6 x7 x8, St ob l2 l4 x6 x7 x8 → k ob l2 l4 x6 x7 x8 (i9 + 4) = some 1
theorem l399 (NF : Nat) (hNF : 200 < NF) (z : Int32) (f : Int32 → Int32) {k : K8} {i9 : Int32} (nx : NX k i9) {ob : Rec} {l2 l4 : Int64} {x6 x7 x8 : Int32} (h : St ob l2 l4 x6 x7 x8) : ∀ (m fuel i : Nat), m < fuel → i ≤ 3 → 3 - i ≤ m → L_law_l399 NF z f k fuel ob l2 l4 x6 x7 x8 i9 (n32 i) = some 1 := by
  have stop : ∀ kk, L_law_w399 NF z f k kk ob l2 l4 x6 x7 x8 i9 (n32 3) = some 1 := by
    intro kk
    unfold L_law_w399
    rw [if_neg (by decide)]
    exact nx ob l2 l4 x6 x7 x8 h
  intro m
  induction m with
  | zero =>
    intro fuel i hf hi hm
    obtain ⟨g, rfl⟩ : ∃ g, fuel = g + 1 := ⟨fuel - 1, by clear h; omega⟩
    have e : i = 3 := by clear h; omega
    rw [e]; exact stop _
  | succ m ih =>
    intro fuel i hf hi hm
    obtain ⟨g, rfl⟩ : ∃ g, fuel = g + 1 := ⟨fuel - 1, by clear h; omega⟩
    by_cases e : i = 3
    · rw [e]; exact stop _
    · have i3 : i < 3 := by clear h; omega
      have sb : ∀ y, y < 3 → sN (gA ob 0) y ∈ List.range 5 := fun y hy => List.mem_range.mpr (by have := (h.di.2.2.sS y hy).2; clear h; omega)
      have lb : ∀ y, y < 3 → sN (gA ob 8) y ∈ List.range 13 := fun y hy => List.mem_range.mpr (lenb h.di hy)
      have e2 : ((l2 >>> (((4 : Int32) * n32 i) &&& 0x3f).toInt64) &&& (15 : Int64)).toInt32 = n32 (sN (gA ob 0) i) := by
        rw [h.q2, pq2_g i (List.mem_range.mpr i3) _ (sb 0 (by omega)) _ (sb 1 (by omega)) _ (sb 2 (by omega)), sel_e _ i3]
        exact (of_i32 _ (List.mem_range.mpr (by have := (h.di.2.2.sS i i3).2; clear h; omega))).1
      have e4 : ((l4 >>> (((8 : Int32) * n32 i) &&& 0x3f).toInt64) &&& (255 : Int64)).toInt32 = n32 (sN (gA ob 8) i) := by
        rw [h.q4, pk3_g i (List.mem_range.mpr i3) _ (lb 0 (by omega)) _ (lb 1 (by omega)) _ (lb 2 (by omega)), sel_e _ i3]
        exact (of_i32 _ (lb i i3)).1
      have po := po_e NF hNF h.di i3
      have fin : ∀ t4, t4 = gA ob 1 (n32 i) → L_law_b456 NF z f k (L_law_l399 NF z f k g) ob l2 l4 x6 x7 x8 i9 (n32 i) (n32 i) (n32 (sN (gA ob 0) i)) (n32 (sN (gA ob 8) i)) t4 = some 1 := by
        intro t4 ht
        unfold L_law_b456
        rw [ht, po, Option.bind_some, if_neg (by decide), n32_s (by clear h; omega)]
        exact ih g (i + 1) (by clear h; omega) (by clear h; omega) (by clear h; omega)
      show L_law_w399 NF z f k (L_law_l399 NF z f k g) ob l2 l4 x6 x7 x8 i9 (n32 i) = some 1
      unfold L_law_w399
      rw [if_pos (by rw [lt_i, nt i (by clear h; omega)]; show (i : Int) < 3; clear h; omega), e2, e4]
      have q8 := h.q8 i i3
      unfold cbt at q8
      by_cases c : (x8 >>> (n32 i &&& 31)) &&& 1 = 1
      · rw [if_pos c]
        rw [decide_eq_true c] at q8
        exact fin 1 (of_decide_eq_true q8.symm).symm
      · rw [if_neg c]
        rw [decide_eq_false c] at q8
        refine fin 0 ?_
        rcases h.di.2.2.sC i i3 with w | w
        · exact w.symm
        · rw [decide_eq_true w] at q8; exact absurd q8 (by decide)
theorem b367 (NF : Nat) (hNF : 200 < NF) (z : Int32) (f : Int32 → Int32) {k : K8} {i9 : Int32} (nx : NX k i9) {ob : Rec} {l2 l4 : Int64} {x6 x7 x8 : Int32} (h : St ob l2 l4 x6 x7 x8) : L_law_b367 NF z f k ob l2 l4 x6 x7 x8 i9 = some 1 := by
  have n7 : ¬ x8 = 7 := fun e => by have := h.m8; rw [e] at this; exact absurd this (by decide)
  have c1 : L_copySum NF ob = some x6 := by rw [h.q6]; exact cs_l NF h.di 40 NF 0 (by clear h; omega) (by clear h; omega) (by clear h; omega)
  have c2 : L_prunedCount NF ob = some x7 := by rw [h.q7]; exact pc_l NF h.di 40 NF 0 (by clear h; omega) (by clear h; omega) (by clear h; omega)
  unfold L_law_b367
  rw [if_neg n7, c1, Option.bind_some, if_pos rfl, c2, Option.bind_some, if_pos rfl]
  exact l399 NF hNF z f nx h 20 NF 0 (by clear h; omega) (by clear h; omega) (by clear h; omega)
/- how the sums move -/
theorem cs_u (a : Fn) {o s q v : Nat} (ho : o < 3) (h1 : 1 ≤ s) (h2 : s ≤ 4) (hq : q < 3) (hv : v ≤ 3) : cs (up a (i5 o s q) (n32 v)) + pN a o s q = cs a + v := by
  have := sm_u (f := fun k => pN a (k / 12) ((k / 3) % 4 + 1) (k % 3)) (g := fun k => pN (up a (i5 o s q) (n32 v)) (k / 12) ((k / 3) % 4 + 1) (k % 3)) (j := o * 12 + (s - 1) * 3 + q) 36 (by omega) (fun i hi ne => by
    show pN _ _ _ _ = pN _ _ _ _
    unfold pN
    rw [up_o (i5_ne (by omega) (by omega) (by omega) (by omega) (by omega) (by omega) (fun z => by omega))])
  have e1 : (o * 12 + (s - 1) * 3 + q) / 12 = o := by omega
  have e2 : ((o * 12 + (s - 1) * 3 + q) / 3) % 4 + 1 = s := by omega
  have e3 : (o * 12 + (s - 1) * 3 + q) % 3 = q := by omega
  simp only [e1, e2, e3] at this
  have e4 : pN (up a (i5 o s q) (n32 v)) o s q = v := by unfold pN; rw [up_s, nt v (by omega)]; rfl
  rw [e4] at this
  exact this
theorem cs_b {ob : Rec} (h : DI ob 3 4) : cs (gA ob 5) ≤ 108 := by
  have := sm_b (f := fun k => pN (gA ob 5) (k / 12) ((k / 3) % 4 + 1) (k % 3)) (c := 3) 36 (fun k hk => (h.2.2.sP (k / 12) (k / 3 % 4 + 1) (k % 3) (by clear h; omega) (by clear h; omega) (by clear h; omega) (by clear h; omega)).2.1)
  have t : cs (gA ob 5) ≤ 36 * 3 := this
  clear h; omega
theorem pc_s {a b : Fn} (h : ∀ y u t, y < 8 → u < 8 → 1 ≤ t → t ≤ 8 → (tS b y u t = 3 ↔ tS a y u t = 3)) : pcN b = pcN a := by
  unfold pcN
  apply cN_eq
  intro k hk
  have := h (k % 3) (k / 12) (k / 3 % 4 + 1) (by omega) (by omega) (by omega) (by omega)
  by_cases c : tS a (k % 3) (k / 12) (k / 3 % 4 + 1) = 3
  · rw [decide_eq_true c, decide_eq_true (this.mpr c)]
  · rw [decide_eq_false c, decide_eq_false (fun z => c (this.mp z))]
theorem pc_1 {a : Fn} {x o s : Nat} {v : Int32} (hx : x < 8) (ho : o < 8) (hs : 1 ≤ s ∧ s ≤ 8) (h1 : ¬ a (i3 x o s) = 3) (h2 : ¬ v = 3) : pcN (up a (i3 x o s) v) = pcN a := by
  apply pc_s
  intro y u t hy hu t1 t2
  by_cases z : y = x ∧ u = o ∧ t = s
  · rw [z.1, z.2.1, z.2.2]
    have tt : tS (up a (i3 x o s) v) x o s = v := up_s _ _ _
    rw [tt]
    exact ⟨fun w => absurd w h2, fun w => absurd w h1⟩
  · have tt : tS (up a (i3 x o s) v) y u t = tS a y u t := up_o (i3_ne hy hu ⟨t1, t2⟩ hx ho hs z)
    rw [tt]
theorem pc_3 : ∀ x (a : Fn) o s, x < 3 → o < 3 → 1 ≤ s → s ≤ 4 → a (i3 x o s) = 2 → pcN (up a (i3 x o s) 3) = pcN a + 1 := by
  intro x a o s hx ho h1 h2 h3
  have e1 : (o * 12 + (s - 1) * 3 + x) / 12 = o := by omega
  have e2 : ((o * 12 + (s - 1) * 3 + x) / 3) % 4 + 1 = s := by omega
  have e3 : (o * 12 + (s - 1) * 3 + x) % 3 = x := by omega
  unfold pcN
  refine cN_set (j := o * 12 + (s - 1) * 3 + x) ?_ ?_ 36 (by omega) (fun i hi ne => ?_)
  · rw [e1, e2, e3]
    have tt : tS a x o s = 2 := h3
    rw [tt]; rfl
  · rw [e1, e2, e3]
    have tt : tS (up a (i3 x o s) 3) x o s = 3 := up_s _ _ _
    rw [tt]; rfl
  · have tt : tS (up a (i3 x o s) 3) (i % 3) (i / 12) (i / 3 % 4 + 1) = tS a (i % 3) (i / 12) (i / 3 % 4 + 1) := up_o (i3_ne (by omega) (by omega) (by omega) (by omega) (by omega) (by omega) (fun z => by omega))
    rw [tt]
theorem sm_add {f g : Nat → Nat} : ∀ n, sm (fun i => f i + g i) n = sm f n + sm g n
  | 0 => rfl
  | n + 1 => by
    show sm (fun i => f i + g i) n + (f n + g n) = sm f n + f n + (sm g n + g n)
    rw [sm_add n]; omega
theorem two_e : ∀ p ∈ List.range 3, ∀ s ∈ List.range 4, sm (fun k => if k / 12 = p ∧ (k / 3) % 4 + 1 = s + 1 then (if k % 3 = p then 0 else 1) else 0) 36 = 2 := by decide +kernel
theorem cs_br {ob r : Rec} (h : DI ob 3 4) {p : Nat} (hp : p < 3) (hs : sN (gA ob 0) p < 4) (br : BR ob r 3 p) : cs (gA r 5) = cs (gA ob 5) + 2 := by
  have e : cs (gA r 5) = sm (fun k => pN (gA ob 5) (k / 12) ((k / 3) % 4 + 1) (k % 3) + (if k / 12 = p ∧ (k / 3) % 4 + 1 = sN (gA ob 0) p + 1 then (if k % 3 = p then 0 else 1) else 0)) 36 := by
    refine sm_c 36 (fun k hk => ?_)
    have g5 := br.g5 (k / 12) (k / 3 % 4 + 1) (k % 3) (by clear h; omega) (by clear h; omega) (by clear h; omega) (by clear h; omega)
    have hP := h.2.2.sP (k / 12) (k / 3 % 4 + 1) (k % 3) (by clear h; omega) (by clear h; omega) (by clear h; omega) (by clear h; omega)
    have lhs : pN (gA r 5) (k / 12) (k / 3 % 4 + 1) (k % 3) = (if k / 12 = p ∧ k / 3 % 4 + 1 = sN (gA ob 0) p + 1 then (if k % 3 = p then 0 else 1) else gA ob 5 (i5 (k / 12) (k / 3 % 4 + 1) (k % 3)) : Int32).toInt.toNat := by unfold pN; rw [g5]
    rw [lhs]
    by_cases c : k / 12 = p ∧ k / 3 % 4 + 1 = sN (gA ob 0) p + 1
    · rw [if_pos c, if_pos c, hP.2.2 (by rw [c.1]; clear h hP; omega)]
      by_cases d : k % 3 = p
      · rw [if_pos d, if_pos d]; rfl
      · rw [if_neg d, if_neg d]; rfl
    · rw [if_neg c, if_neg c]; rfl
  rw [e, sm_add, two_e p (List.mem_range.mpr hp) (sN (gA ob 0) p) (List.mem_range.mpr hs)]; rfl
/-- one copy count changed -/
theorem St_5 {ob : Rec} {l2 l4 : Int64} {x6 x7 x8 y6 : Int32} (h : St ob l2 l4 x6 x7 x8) {o s q v : Nat} (ho : o < 3) (h1 : 1 ≤ s) (h2 : s ≤ sN (gA ob 0) o) (hq : q < 3) (hv : v ≤ 3) (hd : DI (sA ob 5 (i5 o s q) (n32 v)) 3 4) (hy : ∀ c, c + pN (gA ob 5) o s q = cs (gA ob 5) + v → y6 = n32 c) : St (sA ob 5 (i5 o s q) (n32 v)) l2 l4 y6 x7 x8 := by
  have s4 := (h.di.2.2.sS o ho).2
  refine ⟨hd, ?_, ?_, ?_, ?_, h.m8, ?_⟩
  · rw [gA_n _ (by decide)]; exact h.q2
  · rw [gA_n _ (by decide)]; exact h.q4
  · rw [gA_u]; exact hy _ (cs_u _ ho h1 (by clear h hd; omega) hq hv)
  · rw [gA_n _ (by decide)]; exact h.q7
  · rw [gA_n _ (by decide)]; exact h.q8
theorem b170 (NF : Nat) (hNF : 200 < NF) (z : Int32) (f : Int32 → Int32) {k : K8} {i9 : Int32} (nx : NX k i9) {ob : Rec} {l2 l4 : Int64} {x6 x7 x8 : Int32} (h : St ob l2 l4 x6 x7 x8) {o s p : Nat} (ho : o < 4) (hs : s < 5) (hp : p < 4) : L_law_b170 NF z f k ob l2 l4 x6 x7 x8 i9 (n32 o) (n32 s) (n32 p) = some 1 := by
  unfold L_law_b170
  have cb := cs_b h.di
  obtain ⟨a, r, r1, r2, r3⟩ := rcv_e NF hNF h.di (by decide) (by decide) (p := p) (o := o) (s := s) (by clear h; omega) (by clear h; omega) (by clear h; omega)
  rw [r1, bind2_some]
  rcases r3 with ⟨w1, w2, w3⟩ | ⟨p3, o3, s1', s2, pp, w⟩
  · rw [if_pos w1, if_neg w2, w3]; exact b367 NF hNF z f nx h
  · have s4 := (h.di.2.2.sS o o3).2
    have pb := (h.di.2.2.sP o s p o3 s1' (by clear h r2; omega) p3).2.1
    have d5 := DI_5 (v := pN (gA ob 5) o s p - 1) h.di (by decide) (by decide) o3 s1' s2 p3 (by clear h r2; omega)
    have st5 := St_5 (y6 := x6 + (-1)) h o3 s1' s2 p3 (show pN (gA ob 5) o s p - 1 ≤ 3 by clear h r2 d5; omega) d5 (fun c hc => by
      have e : cs (gA ob 5) = c + 1 := by clear h r2 d5; omega
      rw [h.q6, e, n32_d (by clear h r2 d5; omega)])
    rcases w with ⟨w1, w2⟩ | ⟨c, q, w1, w2, w3, w4, w5⟩
    · rw [w1, if_pos (by decide), if_pos rfl, w2]; exact b367 NF hNF z f nx st5
    · rw [w1, if_neg (nneg (n32_b (by clear h r2 d5 st5; omega)).1), sh8 p (List.mem_range.mpr p3) c (List.mem_range.mpr (by clear h r2 d5 st5; omega))]
      obtain ⟨cgi, ⟨g0, g1, g4, g5⟩, ct3, cln, clo⟩ := w5
      have q3 : ¬ gA ob 3 (i3 p o s) = 3 := by rw [w3]; decide
      have Q0 : gA q 0 = gA ob 0 := by rw [w4, gA_n _ (by decide), gA_n _ (by decide)]
      have Q1 : gA q 1 = gA ob 1 := by rw [w4, gA_n _ (by decide), gA_n _ (by decide)]
      have Q5 : gA q 5 = gA (sA ob 5 (i5 o s p) (n32 (pN (gA ob 5) o s p - 1))) 5 := by rw [w4, gA_n _ (by decide)]
      have Q8 : gA q 8 = gA ob 8 := by rw [w4, gA_n _ (by decide), gA_n _ (by decide)]
      have Q3 : pcN (gA q 3) = pcN (gA ob 3) := by
        rw [w4, gA_u, gA_n _ (by decide)]
        exact pc_1 (by clear h r2 d5 st5; omega) (by clear h r2 d5 st5; omega) ⟨s1', by clear h r2 d5 st5; omega⟩ q3 (by decide)
      refine b367 NF hNF z f nx ⟨r2, ?_, ?_, ?_, ?_, h.m8, ?_⟩
      · rw [g0, Q0]; exact h.q2
      · rw [h.q4]
        refine pk3_u p3 ?_ (fun y hy ne => ?_)
        · rw [cln, Q8]
        · rw [clo y (by clear h r2 d5 st5; omega) ne, Q8]
      · rw [g5, Q5]; exact st5.q6
      · rw [pc_s ct3, Q3]; exact h.q7
      · rw [g1, Q1]; exact h.q8
theorem St_br {ob r : Rec} {l2 l4 : Int64} {x6 x7 x8 : Int32} (h : St ob l2 l4 x6 x7 x8) (hd : DI r 3 4) {p : Nat} (hp : p < 3) (hs : sN (gA ob 0) p < 4) (br : BR ob r 3 p) : St r (l2 + ((1 : Int64) <<< (((4 : Int32) * n32 p) &&& 0x3f).toInt64)) (l4 + ((1 : Int64) <<< (((8 : Int32) * n32 p) &&& 0x3f).toInt64)) (x6 + 2) x7 x8 := by
  have p8 : p < 8 := by clear h hd; omega
  have lb := lenb h.di hp
  have cb := cs_b h.di
  have hT := h.di.2.2.sT p p (sN (gA ob 0) p + 1) hp hp (by clear h hd; omega) (by clear h hd; omega)
  refine ⟨hd, ?_, ?_, ?_, ?_, h.m8, ?_⟩
  · rw [h.q2, br.g0]
    refine pq2_u hp ?_ (fun y hy ne => ?_)
    · show (up (gA ob 0) (n32 p) (n32 (sN (gA ob 0) p + 1)) (n32 p)).toInt.toNat = _
      rw [up_s, nt _ (by clear h hd; omega)]; rfl
    · show (up (gA ob 0) (n32 p) (n32 (sN (gA ob 0) p + 1)) (n32 y)).toInt.toNat = _
      rw [up_o (i1_ne (by clear h hd; omega) p8 ne)]; rfl
  · rw [h.q4, br.g8, sh8' p (List.mem_range.mpr hp)]
    refine pk3_u hp ?_ (fun y hy ne => ?_)
    · show (up (gA ob 8) (n32 p) (n32 (sN (gA ob 8) p + 1)) (n32 p)).toInt.toNat = _
      rw [up_s, nt _ (by clear h hd; omega)]; rfl
    · show (up (gA ob 8) (n32 p) (n32 (sN (gA ob 8) p + 1)) (n32 y)).toInt.toNat = _
      rw [up_o (i1_ne (by clear h hd; omega) p8 ne)]; rfl
  · rw [h.q6, cs_br h.di hp hs br]; exact n32_add (j := 2) (by clear h hd; omega) (by decide)
  · rw [br.g3, pc_1 p8 p8 (by clear h hd; omega) (fun z => by
      have t0 : tS (gA ob 3) p p (sN (gA ob 0) p + 1) = 3 := z
      rw [hT.2.2 (by clear h hd hT; omega)] at t0; exact absurd t0 (by decide)) (by decide)]; exact h.q7
  · rw [br.g1]; exact h.q8
theorem law_l (NF : Nat) (hNF : 200 < NF) (z : Int32) (f : Int32 → Int32) (hz : 0 ≤ z.toInt ∧ z.toInt ≤ 260) : ∀ (m fuel : Nat) (ob : Rec) (l2 l4 : Int64) (x6 x7 x8 : Int32) (i : Int32), m < fuel → St ob l2 l4 x6 x7 x8 → (0 ≤ i.toInt ∧ i.toInt ≤ 300) → z.toInt - i.toInt ≤ m → L_law_l27 NF z f fuel ob l2 l4 x6 x7 x8 i = some 1 := by
  intro m
  induction m with
  | zero =>
    intro fuel ob l2 l4 x6 x7 x8 i hf h hi hm
    obtain ⟨n, rfl⟩ : ∃ n, fuel = n + 1 := ⟨fuel - 1, by clear h; omega⟩
    show L_law_w27 NF z f _ ob l2 l4 x6 x7 x8 i = _
    unfold L_law_w27
    have e3 : (i + 3).toInt = i.toInt + 3 := by rw [ad (by show -2147483648 ≤ i.toInt + 3 ∧ i.toInt + 3 < 2147483648; clear h; omega)]; rfl
    rw [if_neg (by rw [lt_i, e3]; clear h; omega)]
  | succ m ih =>
    intro fuel ob l2 l4 x6 x7 x8 i hf h hi hm
    obtain ⟨n, rfl⟩ : ∃ n, fuel = n + 1 := ⟨fuel - 1, by clear h; omega⟩
    show L_law_w27 NF z f (L_law_l27 NF z f n) ob l2 l4 x6 x7 x8 i = _
    unfold L_law_w27
    have e1 : (i + 1).toInt = i.toInt + 1 := s1 (by clear h; omega)
    have e2' : (i + 2).toInt = i.toInt + 2 := by rw [ad (by show -2147483648 ≤ i.toInt + 2 ∧ i.toInt + 2 < 2147483648; clear h; omega)]; rfl
    have e3 : (i + 3).toInt = i.toInt + 3 := by rw [ad (by show -2147483648 ≤ i.toInt + 3 ∧ i.toInt + 3 < 2147483648; clear h; omega)]; rfl
    have e4 : (i + 4).toInt = i.toInt + 4 := by rw [ad (by show -2147483648 ≤ i.toInt + 4 ∧ i.toInt + 4 < 2147483648; clear h; omega)]; rfl
    by_cases cz : i + 3 < z
    · have cz' : i.toInt + 3 < z.toInt := by rw [lt_i, e3] at cz; exact cz
      rw [if_pos cz, chk_ok (by clear h; omega), chk_ok (by rw [e1]; clear h; omega), chk_ok (by rw [e2']; clear h; omega), chk_ok (by rw [e3]; clear h; omega)]
      have nx : NX (L_law_l27 NF z f n) i := fun ob' l2' l4' x6' x7' x8' h' => ih n ob' l2' l4' x6' x7' x8' (i + 4) (by clear h h'; omega) h' (by rw [e4]; clear h h'; omega) (by rw [e4]; clear h h'; omega)
      have ex : ∀ x : Int32, ∃ k : Nat, k < 4 ∧ x &&& 3 = n32 k := fun x => by
        have b := and_b x 3 3 rfl (by decide)
        obtain ⟨k, k1, k2⟩ := n32_e (x &&& 3) b.1
        exact ⟨k, by clear h; omega, k1⟩
      obtain ⟨p, hp, ep⟩ := ex (f (i + 1))
      obtain ⟨o, ho, eo⟩ := ex (f (i + 2))
      obtain ⟨s, hs, es⟩ := ex (f (i + 3))
      obtain ⟨q, hq, eq⟩ := ex ((f (i + 1)) >>> ((2 : Int32) &&& 31))
      rw [ep, eo, es, eq, n32_s (by clear h; omega)]
      have cb := cs_b h.di
      generalize (f i) &&& 15 = op
      by_cases c1 : op < 4
      · rw [if_pos c1]
        obtain ⟨a, r, r1, r2, r3⟩ := brd_e NF hNF h.di (by decide) (by decide) (p := p) (by clear h; omega)
        rw [r1, bind2_some]
        rcases r3 with ⟨w1, w2⟩ | ⟨w1, w2, w3, w4⟩
        · rw [if_neg (by rw [lt_i] at w1 ⊢; have w1' : a.toInt < 0 := w1; show ¬ (0 : Int) < a.toInt; clear h r2; omega), w2]
          exact b367 NF hNF z f nx h
        · have sb : ∀ y, y < 3 → sN (gA ob 0) y ∈ List.range 5 := fun y hy => List.mem_range.mpr (by have := (h.di.2.2.sS y hy).2; clear h r2; omega)
          rw [w3, if_pos (by rw [lt_i, nt _ (by clear h r2; omega)]; show (0 : Int) < ((_ + 1 : Nat) : Int); clear h r2; omega), if_pos (by
            rw [h.q2, pq2_g p (List.mem_range.mpr w1) _ (sb 0 (by omega)) _ (sb 1 (by omega)) _ (sb 2 (by omega)), sel_e _ w1]
            exact (of_i32 _ (List.mem_range.mpr (by clear h r2; omega))).2)]
          exact b367 NF hNF z f nx (St_br h r2 w1 w2 w4)
      · rw [if_neg c1]
        by_cases c2 : op < 8
        · rw [if_pos c2]; exact b170 NF hNF z f nx h ho (by clear h; omega) hp
        · rw [if_neg c2]
          by_cases c3 : op = 15
          · rw [if_pos c3]; exact b170 NF hNF z f nx h ho (by clear h; omega) hp
          · rw [if_neg c3]
            by_cases c4 : op = 8
            · rw [if_pos c4]
              obtain ⟨a, r, r1, r2, r3⟩ := dup_e h.di (by decide) (by decide) (p := p) (o := o) (s := s + 1) (by clear h; omega) (by clear h; omega) (by clear h; omega)
              rw [r1, bind2_some]
              rcases r3 with ⟨w1, w2⟩ | ⟨w1, w2, w3, w4, w5, pv3, w6⟩
              · rw [if_neg (by rw [lt_i] at w1 ⊢; have w1' : a.toInt < 0 := w1; show ¬ (0 : Int) < a.toInt; clear h r2; omega), w2]
                exact b367 NF hNF z f nx h
              · rw [if_pos w5]
                rw [w6] at r2 ⊢
                refine b367 NF hNF z f nx (St_5 h w2 w3 w4 w1 pv3 r2 (fun c hc => ?_))
                have e : c = cs (gA ob 5) + 1 := by clear h r2; omega
                rw [h.q6, e, n32_s (by clear h r2; omega)]
            · rw [if_neg c4]
              by_cases c5 : op = 9
              · rw [if_pos c5]
                obtain ⟨a, r, r1, r2, r3⟩ := drp_e h.di (by decide) (by decide) (p := p) (o := o) (s := s + 1) (by clear h; omega) (by clear h; omega) (by clear h; omega)
                rw [r1, bind2_some]
                rcases r3 with ⟨w1, w2⟩ | ⟨w1, w2, w3, w4, w5, w6, w7⟩
                · rw [if_pos w1, w2]
                  exact b367 NF hNF z f nx h
                · rw [if_neg w5]
                  rw [w7] at r2 ⊢
                  have s4 := (h.di.2.2.sS o w2).2
                  have pb := (h.di.2.2.sP o (s + 1) p w2 w3 (by clear h r2; omega) w1).2.1
                  refine b367 NF hNF z f nx (St_5 h w2 w3 w4 w1 (by clear h r2; omega) r2 (fun c hc => ?_))
                  have e : cs (gA ob 5) = c + 1 := by clear h r2; omega
                  rw [h.q6, e, n32_d (by clear h r2; omega)]
              · rw [if_neg c5]
                by_cases c6 : op < 12
                · rw [if_pos c6]
                  obtain ⟨a, r, r1, r2, r3⟩ := rtx_e h.di (by decide) (by decide) (q := q) (p := p) (o := o) (s := s + 1) (by clear h; omega) (by clear h; omega) (by clear h; omega) (by clear h; omega)
                  rw [r1, bind2_some]
                  rcases r3 with ⟨w1, w2⟩ | ⟨w1, w2, w3, w4, w5, pv3, w6⟩
                  · rw [if_neg w1, w2]
                    exact b367 NF hNF z f nx h
                  · rw [if_pos w5]
                    rw [w6] at r2 ⊢
                    refine b367 NF hNF z f nx (St_5 h w2 w3 w4 w1 pv3 r2 (fun c hc => ?_))
                    have e : c = cs (gA ob 5) + 1 := by clear h r2; omega
                    rw [h.q6, e, n32_s (by clear h r2; omega)]
                · rw [if_neg c6]
                  by_cases c7 : op = 12
                  · rw [if_pos c7]
                    obtain ⟨a, r, r1, r2, r3, r4⟩ := gos_e NF hNF h.di (by decide) (by decide) (p := q) (q := p) (by clear h; omega) (by clear h; omega)
                    rw [r1, bind2_some]
                    exact b367 NF hNF z f nx ⟨r2, by rw [r4 0 (by decide)]; exact h.q2, by rw [r4 8 (by decide)]; exact h.q4, by rw [r4 5 (by decide)]; exact h.q6, by rw [r4 3 (by decide)]; exact h.q7, h.m8, by rw [r4 1 (by decide)]; exact h.q8⟩
                  · rw [if_neg c7]
                    by_cases c8 : op = 13
                    · rw [if_pos c8]
                      obtain ⟨a, r, r1, r2, r3⟩ := prn_e NF hNF h.di (by decide) (by decide) (p := p) (by clear h; omega) pcN pc_3
                      rw [r1, bind2_some]
                      rcases r3 with ⟨w1, w2⟩ | ⟨c, w1, w2, ⟨w3, w4⟩, w5⟩
                      · rw [if_pos w1, w2]
                        exact b367 NF hNF z f nx h
                      · rw [w1, if_neg (nneg (n32_b (by clear h r2; omega)).1)]
                        have pb : pcN (gA ob 3) ≤ 36 := cN_b _ 36
                        exact b367 NF hNF z f nx ⟨r2, by rw [w4 0 (by decide)]; exact h.q2, by rw [w4 8 (by decide)]; exact h.q4, by rw [w4 5 (by decide)]; exact h.q6, by rw [w5, h.q7, n32_add (by clear h r2; omega) (by clear h r2; omega)], h.m8, by rw [w4 1 (by decide)]; exact h.q8⟩
                    · rw [if_neg c8]
                      obtain ⟨a, r, r1, r2, r3⟩ := crs_e NF hNF h.di (by decide) (by decide) (p := p) (by clear h; omega)
                      rw [r1, bind2_some]
                      rcases r3 with ⟨w1, w2⟩ | ⟨w1, w2, w3, u, u1, u2, u3⟩
                      · rw [if_neg w1, w2]
                        exact b367 NF hNF z f nx h
                      · rw [if_pos w1]
                        rw [w3] at r2 ⊢
                        have bu : cbt x8 (n32 u) = false := by rw [h.q8 u u1, u3]; rfl
                        refine b367 NF hNF z f nx ⟨r2, by rw [gA_n _ (by decide)]; exact h.q2, by rw [gA_n _ (by decide)]; exact h.q4, by rw [gA_n _ (by decide)]; exact h.q6, by rw [gA_n _ (by decide)]; exact h.q7, cm_u x8 h.m8 p (List.mem_range.mpr w2) u (List.mem_range.mpr u1) u2 bu, fun t ht => ?_⟩
                        rw [cm_t x8 h.m8 p (List.mem_range.mpr w2) t (List.mem_range.mpr ht), gA_u, h.q8 t ht]
                        by_cases e : t = p
                        · rw [decide_eq_true e, e, up_s]; rfl
                        · rw [decide_eq_false e, up_o (i1_ne (by clear h r2; omega) (by clear h r2; omega) e)]; rfl
    · rw [if_neg cz]
theorem owed : ∀ (z : Int32) (f : Int32 → Int32), ¬ z < 0 → z ≤ 260 → ∃ NF, L_law NF z f = some 1 := by
  intro z f h0 h1
  refine ⟨400, ?_⟩
  have h1' : z.toInt ≤ 260 := le_i.mp h1
  obtain ⟨r, r1, r2, r3⟩ := ini_e (n := 3) (cap := 4) (by omega) (by omega)
  unfold L_law
  have r1' : X_init 3 4 = some r := r1
  have ra : ∀ j, gA r j = fun _ => 0 := fun j => funext (fun x => r3 j x)
  rw [r1', Option.bind_some]
  refine law_l 400 (by omega) z f ⟨nneg' h0, h1'⟩ 300 400 r 0 0 0 0 0 0 (by omega) ⟨r2, ?_, ?_, ?_, ?_, by decide, fun x hx => ?_⟩ (by decide) (by show z.toInt - 0 ≤ _; omega)
  · rw [ra]; decide +kernel
  · rw [ra]; decide +kernel
  · rw [ra]; decide +kernel
  · rw [ra]; decide +kernel
  · rw [ra]; rcases x3 hx with e | e | e <;> rw [e] <;> decide +kernel
-- owed : ∀ (z : Int32) (f : Int32 → Int32), ¬ z < 0 → z ≤ 260 → ∃ NF, L_law NF z f = some 1
--COMES--
set_option maxRecDepth 65536 in
set_option maxHeartbeats 4000000 in
theorem comes_1 {Post : Tables → Env → Array Value → State → Outcome → State → Prop} (hpost : ∀ tb e args s v u, (limb_1_1.after args s (.returned v) u = true ∧ limb_1_2.after args s (.returned v) u = true ∧ True) → FrameEnd s (.returned v) u (Jvm.fieldLocs frame_1_writes args s ++ Jvm.arrayLocs frame_1_arrays args s ++ Jvm.staticLocs frame_1_statics s) 32 5440 → Post tb e args s (.returned v) u) :
    ArmFor flags0 classFile x code maxLocals ret World_1 tables_1 room_1 Calls_1 rest_1 Pre_1 Post := by
  intro l hfl _ _ p e ha hc hk s m args below hf hA hF happ hP
  obtain ⟨hcalls, hrest, hpre⟩ := hP
  obtain ⟨-, -, -, hnamed, -, -, -, hat⟩ := (Spec.applies_iff hf).mp happ
  obtain ⟨hg, hn⟩ := and_e (Cond.before_iff.mp (show (Jvm.Cond.and given_1 narrow_1).before args s = true from hpre))
  obtain ⟨hcnt, hg⟩ := and_e hg
  obtain ⟨w0, rfl⟩ : ∃ w0 : Value, args = #[w0] := by
    have hs : args.size = 1 := by simpa [Cond.value, given_1] using hcnt
    obtain ⟨L⟩ := args
    match L, hs with
    | [w0], _ => exact ⟨w0, rfl⟩
  have hw := fun d (hd : d ∈ tables_1) => atoms_spec (ws := Jvm.Cond.code x code maxLocals ret :: tables_1) hat d (List.mem_cons_of_mem _ hd)
  have hfit : Fit s := fun {y c} hc i hi => by
    obtain ⟨ha, rfl⟩ := Array.getElem?_eq_some_iff.mp hc
    have q := List.all_eq_true.mp ((Array.all_eq_true_iff_forall_mem.mp hF) _ (Array.getElem_mem ha)) i (List.mem_range.mpr hi)
    simpa [Array.getElem?_eq_getElem hi] using q
  obtain ⟨n1, n2⟩ := and_e hn
  obtain ⟨sa, ev⟩ := arr_v n1
  obtain rfl : w0 = .ref sa := Option.some.inj ev
  obtain ⟨cl, A⟩ := Arr.start ev n1
  have hsz : cl.slots.size < 2 ^ 31 := by
    rcases Nat.lt_or_ge cl.slots.size (2 ^ 31) with q | q
    · exact q
    · have u : (Term.length (.arg 0)).eval #[.ref sa] s none [] s = none := by
        have v : s.arrayAt? sa = some cl := A.fin (Vm.Alike.refl _)
        have e' : ¬ cl.slots.size < 2 ^ 31 := by omega
        simp only [Term.eval] at ev ⊢
        simp [v, e']
      simp [Cond.value, u] at n2
  obtain ⟨z, hz, F⟩ := Scr.start hfit A hsz
  have hle : z ≤ 260 := by
    have u := len_f (t := .arg 0) (args := #[.ref sa]) (first := s) (o := none) (idx := []) ev (A.fin (Vm.Alike.refl _)) hsz
    rw [hz]; first | (simp only [Cond.value, u] at n2; simpa [Term.eval] using n2) | (simp [Cond.value, u, Term.int_eval] at n2; exact n2) | (simp [Cond.value, u, Term.int_eval] at n2; simpa using n2)
  obtain ⟨NF, hlaw⟩ := owed z (atv cl) F.2.2.1 hle
  have hp := L_law_pay (C := (l, s, s.heap.size, #[.ref sa])) (⟨cl, F, rfl⟩ : ScrF (l, s, s.heap.size, #[.ref sa]) sa z (atv cl)) hlaw hw s.heap (Rep.start s) tables_1
  obtain ⟨n, o, h1, h2, h3, v, L, rfl, ⟨N, G', -, rfl⟩, hq⟩ := hp p e ha hc hk s m _ below hf ((Spec.applies_iff_loose hf).mp happ).1 ⟨rfl, State.Warmed39.refl s, rfl⟩ trivial
  refine ⟨n, _, h1, h2, h3, hpost _ _ _ _ _ _ ⟨Cond.after_iff.mpr rfl, Cond.after_iff.mpr (eq_i res_at (Term.int_eval (1)) rfl), trivial⟩ ⟨hq.1, hq.2.1, (hq.2.2.sift fun y hy => Or.inr (N y hy)).mono (by decide) (by decide)⟩⟩
theorem main_1_1 : Claimed_1_1 := comes_1 fun _ _ _ _ _ _ h hF => ⟨h.1, hF⟩
theorem main_1_2 : Claimed_1_2 := comes_1 fun _ _ _ _ _ _ h hF => ⟨h.2.1, hF⟩
end Jvm.Pilot.@@N@@
namespace Jvm.Pilot.@@N@@
open Jvm Jvm.ClassFile Sem Op Lib Jvm.Free Jvm.Stand Jvm.Pilot.@@N@@.Jvm.D
/-! MADE BY PROGRAM (witnessworld.py) out of the Statement's table words and the real class files: 11 classes; the members and pool entries that the words name. The judged class is class 1, her method 1. -/
namespace start1
open Jvm.ClassFile
def u (s : String) : CpInfo := .utf8 (stringToUtf16 s)
/-- a pool by its gaps: so many unusable entries, then the entry; so many at the end -/
def gap : Nat → List CpInfo → List CpInfo
  | 0, r => r
  | n + 1, r => .unusable :: gap n r
def poolList (es : List (Nat × CpInfo)) (last : Nat) : List CpInfo := es.foldr (fun e r => gap e.1 (e.2 :: r)) (gap last [])
def pool (es : List (Nat × CpInfo)) (last : Nat) : Array CpInfo := ⟨poolList es last⟩
def fileOf (pool : Array CpInfo) (this : Nat) (attrs : Array Attribute := #[]) (ms : Array MethodInfo := #[]) (fl : Nat := 33) (sup : Nat := 0) (ifs : Array Nat := #[]) (fds : Array FieldInfo := #[]) : ClassFile where
  minorVersion := 0
  majorVersion := 65
  constantPool := pool
  accessFlags := fl
  thisClass := this
  superClass := sup
  interfaces := ifs
  fields := fds
  methods := ms
  attributes := attrs
def plain (name : String) (sup : Option ClassId) : Class where
  name := name
  kind := .ordinary
  loader := none
  accessFlags := 33
  super := sup
  interfaces := #[]
  cf := none
  fields := #[]
  methods := #[]
  instanceTypes := #[]
  staticTypes := #[]
  resolved := #[]
  callSites := []
  init := .initialized
  statics := none
  mirror := none

def pool0 : Array CpInfo := pool [(5, u "<init>"), (0, u "()V"), (1, .class_ 10), (1, u "java/lang/Object")] 113

def k0c0 : Code := { maxStack := 0, maxLocals := 1, code := object_method_1_code, exceptionTable := #[], attributes := #[] }
def k0m0 : Method := { name := "<init>", desc := "()V", sig := { parameters := [], returnType := none }, accessFlags := 1, code := some k0c0 }
/-- java/lang/Object -/
def k0 : Class := { plain "java/lang/Object" none with
  accessFlags := 33
  interfaces := #[]
  cf := some (fileOf pool0 8 #[] #[{ accessFlags := 1, nameIndex := 5, descriptorIndex := 6, attributes := #[] }] 33 0 #[] #[])
  fields := #[]
  methods := #[k0m0]
  instanceTypes := #[]
  staticTypes := #[]
  resolved := Array.replicate 124 none
  statics := none }

def pool1 : Array CpInfo := pool [(2, .class_ 4), (1, u "java/lang/Object"), (0, u "<init>"), (0, u "()V"), (0, .class_ 8), (0, u "CausalStable"), (0, .methodref 7 10), (0, .nameAndType 5 11), (0, u "(II)V"), (0, .methodref 7 13), (0, .nameAndType 14 15), (0, u "broadcast"), (0, u "(I)I"), (0, .long 15), (1, .methodref 7 19), (0, .nameAndType 20 21), (0, u "receive"), (0, u "(III)I"), (0, .methodref 7 23), (0, .nameAndType 24 21), (0, u "duplicate"), (0, .methodref 7 26), (0, .nameAndType 27 21), (0, u "drop"), (0, .methodref 7 29), (0, .nameAndType 30 31), (0, u "retransmit"), (0, u "(IIII)I"), (0, .methodref 7 33), (0, .nameAndType 34 35), (0, u "gossip"), (0, u "(II)I"), (0, .methodref 7 37), (0, .nameAndType 38 15), (0, u "prune"), (0, .methodref 7 40), (0, .nameAndType 41 15), (0, u "crash"), (0, .methodref 43 44), (0, .class_ 45), (0, .nameAndType 46 47), (0, u "CausalStableL6"), (0, u "copySum"), (0, u "(LCausalStable;)I"), (0, .methodref 43 49), (0, .nameAndType 50 47), (0, u "prunedCount"), (0, .long 255), (1, .methodref 43 54), (0, .nameAndType 55 56), (0, u "procOk"), (0, u "(LCausalStable;IIIZ)Z"), (0, .methodref 7 58), (0, .nameAndType 59 15), (0, u "sent"), (0, .methodref 7 61), (0, .nameAndType 62 63), (0, u "isCrashed"), (0, u "(I)Z"), (0, .methodref 7 65), (0, .nameAndType 66 35), (0, u "deliveredAt"), (0, .methodref 7 68), (0, .nameAndType 69 35), (0, u "delivered"), (0, .methodref 7 71), (0, .nameAndType 72 21), (0, u "known"), (0, .methodref 7 74), (0, .nameAndType 75 21), (0, u "copies"), (0, .methodref 7 77), (0, .nameAndType 78 21), (0, u "state"), (2, u "law"), (0, u "([I)Z")] 5

def k1m0 : Method := { name := "<init>", desc := "()V", sig := { parameters := [], returnType := none }, accessFlags := 1, code := none }
def k1c1 : Code := { maxStack := 6, maxLocals := 19, code := code, exceptionTable := #[], attributes := #[] }
def k1m1 : Method := { name := "law", desc := "([I)Z", sig := { parameters := [(.array .int)], returnType := some .boolean }, accessFlags := 9, code := some k1c1 }
def k1c2 : Code := { maxStack := 4, maxLocals := 10, code := method_3_code, exceptionTable := #[], attributes := #[] }
def k1m2 : Method := { name := "procOk", desc := "(LCausalStable;IIIZ)Z", sig := { parameters := [(.object "CausalStable"), .int, .int, .int, .boolean], returnType := some .boolean }, accessFlags := 10, code := some k1c2 }
def k1c3 : Code := { maxStack := 5, maxLocals := 4, code := method_4_code, exceptionTable := #[], attributes := #[] }
def k1m3 : Method := { name := "copySum", desc := "(LCausalStable;)I", sig := { parameters := [(.object "CausalStable")], returnType := some .int }, accessFlags := 10, code := some k1c3 }
def k1c4 : Code := { maxStack := 5, maxLocals := 3, code := method_5_code, exceptionTable := #[], attributes := #[] }
def k1m4 : Method := { name := "prunedCount", desc := "(LCausalStable;)I", sig := { parameters := [(.object "CausalStable")], returnType := some .int }, accessFlags := 10, code := some k1c4 }
/-- CausalStableL6 -/
def k1 : Class := { plain "CausalStableL6" (some 0) with
  accessFlags := 33
  interfaces := #[]
  cf := some (fileOf pool1 43 #[] #[{ accessFlags := 1, nameIndex := 5, descriptorIndex := 6, attributes := #[] }, { accessFlags := 9, nameIndex := 81, descriptorIndex := 82, attributes := #[] }, { accessFlags := 10, nameIndex := 55, descriptorIndex := 56, attributes := #[] }, { accessFlags := 10, nameIndex := 46, descriptorIndex := 47, attributes := #[] }, { accessFlags := 10, nameIndex := 50, descriptorIndex := 47, attributes := #[] }] 33 2 #[] #[])
  fields := #[]
  methods := #[k1m0, k1m1, k1m2, k1m3, k1m4]
  instanceTypes := #[]
  staticTypes := #[]
  resolved := Array.replicate 88 none
  statics := none }

def pool2 : Array CpInfo := pool [(1, .methodref 2 3), (0, .class_ 4), (0, .nameAndType 5 6), (0, u "java/lang/Object"), (0, u "<init>"), (0, u "()V"), (0, .fieldref 8 9), (0, .class_ 10), (0, .nameAndType 11 12), (0, u "CausalStable"), (0, u "sentCount"), (0, u "[I"), (0, .fieldref 8 14), (0, .nameAndType 15 16), (0, u "crashedFlag"), (0, u "[Z"), (0, .fieldref 8 18), (0, .nameAndType 19 12), (0, u "del"), (0, .fieldref 8 21), (0, .nameAndType 22 12), (0, u "msgState"), (0, .fieldref 8 24), (0, .nameAndType 25 12), (0, u "stampArr"), (0, .fieldref 8 27), (0, .nameAndType 28 12), (0, u "copyArr"), (0, .fieldref 8 30), (0, .nameAndType 31 12), (0, u "known"), (0, .fieldref 8 33), (0, .nameAndType 34 12), (0, u "list"), (0, .fieldref 8 36), (0, .nameAndType 37 12), (0, u "listLen"), (0, .fieldref 8 39), (0, .nameAndType 40 41), (0, u "n"), (0, u "I"), (0, .fieldref 8 43), (0, .nameAndType 44 41), (0, u "cap"), (0, .methodref 8 46), (0, .nameAndType 47 48), (0, u "stateIndex"), (0, u "(III)I"), (0, .methodref 8 50), (0, .nameAndType 51 48), (0, u "knownIndex"), (0, .methodref 8 53), (0, .nameAndType 54 55), (0, u "exists"), (0, u "(II)Z"), (0, .methodref 8 57), (0, .nameAndType 58 59), (0, u "msgIndex"), (0, u "(II)I"), (0, .methodref 8 61), (0, .nameAndType 62 63), (0, u "isDeliverable"), (0, u "(III)Z"), (0, .methodref 8 65), (0, .nameAndType 66 67), (0, u "deliverAt"), (0, u "(III)V"), (0, .methodref 8 69), (0, .nameAndType 70 71), (0, u "validProc"), (0, u "(I)Z"), (0, .methodref 8 73), (0, .nameAndType 74 48), (0, u "copyIndex"), (0, .methodref 8 76), (0, .nameAndType 77 78), (0, u "cascade"), (0, u "(I)I"), (0, .methodref 8 80), (0, .nameAndType 81 63), (0, u "isStable"), (0, .methodref 8 83), (0, .nameAndType 84 71), (0, u "othersAllCrashed"), (0, u "OK"), (2, u "BAD"), (1, u "CRASHED"), (1, u "FULL"), (1, u "NO_COPY"), (1, u "DUPLICATE"), (1, u "NOT_LOGGED"), (1, u "LAST"), (1, u "NONE"), (0, u "HELD"), (1, u "LOGGED"), (1, u "PRUNED"), (1, u "MAX_COPIES"), (0, u "(II)V"), (3, u "broadcast"), (1, u "receive"), (0, u "duplicate"), (0, u "drop"), (0, u "retransmit"), (0, u "(IIII)I"), (0, u "gossip"), (0, u "prune"), (0, u "crash"), (0, u "sent"), (1, u "copies"), (0, u "state"), (0, u "delivered"), (0, u "deliveredAt"), (0, u "isCrashed")] 2

def k2c0 : Code := { maxStack := 2, maxLocals := 5, code := prog_1_method_1_code, exceptionTable := #[], attributes := #[] }
def k2m0 : Method := { name := "<init>", desc := "(II)V", sig := { parameters := [.int, .int], returnType := none }, accessFlags := 1, code := some k2c0 }
def k2c1 : Code := { maxStack := 2, maxLocals := 2, code := prog_1_method_2_code, exceptionTable := #[], attributes := #[] }
def k2m1 : Method := { name := "validProc", desc := "(I)Z", sig := { parameters := [.int], returnType := some .boolean }, accessFlags := 2, code := some k2c1 }
def k2c2 : Code := { maxStack := 3, maxLocals := 3, code := prog_1_method_3_code, exceptionTable := #[], attributes := #[] }
def k2m2 : Method := { name := "exists", desc := "(II)Z", sig := { parameters := [.int, .int], returnType := some .boolean }, accessFlags := 2, code := some k2c2 }
def k2c3 : Code := { maxStack := 2, maxLocals := 3, code := prog_1_method_4_code, exceptionTable := #[], attributes := #[] }
def k2m3 : Method := { name := "msgIndex", desc := "(II)I", sig := { parameters := [.int, .int], returnType := some .int }, accessFlags := 2, code := some k2c3 }
def k2c4 : Code := { maxStack := 3, maxLocals := 4, code := prog_1_method_5_code, exceptionTable := #[], attributes := #[] }
def k2m4 : Method := { name := "stateIndex", desc := "(III)I", sig := { parameters := [.int, .int, .int], returnType := some .int }, accessFlags := 2, code := some k2c4 }
def k2c5 : Code := { maxStack := 2, maxLocals := 4, code := prog_1_method_6_code, exceptionTable := #[], attributes := #[] }
def k2m5 : Method := { name := "copyIndex", desc := "(III)I", sig := { parameters := [.int, .int, .int], returnType := some .int }, accessFlags := 2, code := some k2c5 }
def k2c6 : Code := { maxStack := 3, maxLocals := 4, code := prog_1_method_7_code, exceptionTable := #[], attributes := #[] }
def k2m6 : Method := { name := "knownIndex", desc := "(III)I", sig := { parameters := [.int, .int, .int], returnType := some .int }, accessFlags := 2, code := some k2c6 }
def k2c7 : Code := { maxStack := 5, maxLocals := 7, code := prog_1_method_8_code, exceptionTable := #[], attributes := #[] }
def k2m7 : Method := { name := "deliverAt", desc := "(III)V", sig := { parameters := [.int, .int, .int], returnType := none }, accessFlags := 2, code := some k2c7 }
def k2c8 : Code := { maxStack := 4, maxLocals := 7, code := prog_1_method_9_code, exceptionTable := #[], attributes := #[] }
def k2m8 : Method := { name := "isDeliverable", desc := "(III)Z", sig := { parameters := [.int, .int, .int], returnType := some .boolean }, accessFlags := 2, code := some k2c8 }
def k2c9 : Code := { maxStack := 4, maxLocals := 8, code := prog_1_method_10_code, exceptionTable := #[], attributes := #[] }
def k2m9 : Method := { name := "cascade", desc := "(I)I", sig := { parameters := [.int], returnType := some .int }, accessFlags := 2, code := some k2c9 }
def k2c10 : Code := { maxStack := 4, maxLocals := 6, code := prog_1_method_11_code, exceptionTable := #[], attributes := #[] }
def k2m10 : Method := { name := "isStable", desc := "(III)Z", sig := { parameters := [.int, .int, .int], returnType := some .boolean }, accessFlags := 2, code := some k2c10 }
def k2c11 : Code := { maxStack := 2, maxLocals := 3, code := prog_1_method_12_code, exceptionTable := #[], attributes := #[] }
def k2m11 : Method := { name := "othersAllCrashed", desc := "(I)Z", sig := { parameters := [.int], returnType := some .boolean }, accessFlags := 2, code := some k2c11 }
def k2c12 : Code := { maxStack := 5, maxLocals := 5, code := prog_1_method_13_code, exceptionTable := #[], attributes := #[] }
def k2m12 : Method := { name := "broadcast", desc := "(I)I", sig := { parameters := [.int], returnType := some .int }, accessFlags := 1, code := some k2c12 }
def k2c13 : Code := { maxStack := 4, maxLocals := 6, code := prog_1_method_14_code, exceptionTable := #[], attributes := #[] }
def k2m13 : Method := { name := "receive", desc := "(III)I", sig := { parameters := [.int, .int, .int], returnType := some .int }, accessFlags := 1, code := some k2c13 }
def k2c14 : Code := { maxStack := 4, maxLocals := 5, code := prog_1_method_15_code, exceptionTable := #[], attributes := #[] }
def k2m14 : Method := { name := "duplicate", desc := "(III)I", sig := { parameters := [.int, .int, .int], returnType := some .int }, accessFlags := 1, code := some k2c14 }
def k2c15 : Code := { maxStack := 4, maxLocals := 5, code := prog_1_method_16_code, exceptionTable := #[], attributes := #[] }
def k2m15 : Method := { name := "drop", desc := "(III)I", sig := { parameters := [.int, .int, .int], returnType := some .int }, accessFlags := 1, code := some k2c15 }
def k2c16 : Code := { maxStack := 4, maxLocals := 7, code := prog_1_method_17_code, exceptionTable := #[], attributes := #[] }
def k2m16 : Method := { name := "retransmit", desc := "(IIII)I", sig := { parameters := [.int, .int, .int, .int], returnType := some .int }, accessFlags := 1, code := some k2c16 }
def k2c17 : Code := { maxStack := 4, maxLocals := 7, code := prog_1_method_18_code, exceptionTable := #[], attributes := #[] }
def k2m17 : Method := { name := "gossip", desc := "(II)I", sig := { parameters := [.int, .int], returnType := some .int }, accessFlags := 1, code := some k2c17 }
def k2c18 : Code := { maxStack := 4, maxLocals := 7, code := prog_1_method_19_code, exceptionTable := #[], attributes := #[] }
def k2m18 : Method := { name := "prune", desc := "(I)I", sig := { parameters := [.int], returnType := some .int }, accessFlags := 1, code := some k2c18 }
def k2c19 : Code := { maxStack := 3, maxLocals := 2, code := prog_1_method_20_code, exceptionTable := #[], attributes := #[] }
def k2m19 : Method := { name := "crash", desc := "(I)I", sig := { parameters := [.int], returnType := some .int }, accessFlags := 1, code := some k2c19 }
def k2c20 : Code := { maxStack := 2, maxLocals := 2, code := prog_1_method_21_code, exceptionTable := #[], attributes := #[] }
def k2m20 : Method := { name := "sent", desc := "(I)I", sig := { parameters := [.int], returnType := some .int }, accessFlags := 1, code := some k2c20 }
def k2c21 : Code := { maxStack := 4, maxLocals := 5, code := prog_1_method_23_code, exceptionTable := #[], attributes := #[] }
def k2m21 : Method := { name := "copies", desc := "(III)I", sig := { parameters := [.int, .int, .int], returnType := some .int }, accessFlags := 1, code := some k2c21 }
def k2c22 : Code := { maxStack := 4, maxLocals := 5, code := prog_1_method_24_code, exceptionTable := #[], attributes := #[] }
def k2m22 : Method := { name := "state", desc := "(III)I", sig := { parameters := [.int, .int, .int], returnType := some .int }, accessFlags := 1, code := some k2c22 }
def k2c23 : Code := { maxStack := 3, maxLocals := 3, code := prog_1_method_25_code, exceptionTable := #[], attributes := #[] }
def k2m23 : Method := { name := "delivered", desc := "(II)I", sig := { parameters := [.int, .int], returnType := some .int }, accessFlags := 1, code := some k2c23 }
def k2c24 : Code := { maxStack := 3, maxLocals := 3, code := prog_1_method_26_code, exceptionTable := #[], attributes := #[] }
def k2m24 : Method := { name := "deliveredAt", desc := "(II)I", sig := { parameters := [.int, .int], returnType := some .int }, accessFlags := 1, code := some k2c24 }
def k2c25 : Code := { maxStack := 4, maxLocals := 5, code := prog_1_method_27_code, exceptionTable := #[], attributes := #[] }
def k2m25 : Method := { name := "known", desc := "(III)I", sig := { parameters := [.int, .int, .int], returnType := some .int }, accessFlags := 1, code := some k2c25 }
def k2c26 : Code := { maxStack := 2, maxLocals := 2, code := prog_1_method_28_code, exceptionTable := #[], attributes := #[] }
def k2m26 : Method := { name := "isCrashed", desc := "(I)Z", sig := { parameters := [.int], returnType := some .boolean }, accessFlags := 1, code := some k2c26 }
/-- CausalStable -/
def k2 : Class := { plain "CausalStable" (some 0) with
  accessFlags := 49
  interfaces := #[]
  cf := some (fileOf pool2 8 #[] #[{ accessFlags := 1, nameIndex := 5, descriptorIndex := 110, attributes := #[] }, { accessFlags := 2, nameIndex := 70, descriptorIndex := 71, attributes := #[] }, { accessFlags := 2, nameIndex := 54, descriptorIndex := 55, attributes := #[] }, { accessFlags := 2, nameIndex := 58, descriptorIndex := 59, attributes := #[] }, { accessFlags := 2, nameIndex := 47, descriptorIndex := 48, attributes := #[] }, { accessFlags := 2, nameIndex := 74, descriptorIndex := 48, attributes := #[] }, { accessFlags := 2, nameIndex := 51, descriptorIndex := 48, attributes := #[] }, { accessFlags := 2, nameIndex := 66, descriptorIndex := 67, attributes := #[] }, { accessFlags := 2, nameIndex := 62, descriptorIndex := 63, attributes := #[] }, { accessFlags := 2, nameIndex := 77, descriptorIndex := 78, attributes := #[] }, { accessFlags := 2, nameIndex := 81, descriptorIndex := 63, attributes := #[] }, { accessFlags := 2, nameIndex := 84, descriptorIndex := 71, attributes := #[] }, { accessFlags := 1, nameIndex := 114, descriptorIndex := 78, attributes := #[] }, { accessFlags := 1, nameIndex := 116, descriptorIndex := 48, attributes := #[] }, { accessFlags := 1, nameIndex := 117, descriptorIndex := 48, attributes := #[] }, { accessFlags := 1, nameIndex := 118, descriptorIndex := 48, attributes := #[] }, { accessFlags := 1, nameIndex := 119, descriptorIndex := 120, attributes := #[] }, { accessFlags := 1, nameIndex := 121, descriptorIndex := 59, attributes := #[] }, { accessFlags := 1, nameIndex := 122, descriptorIndex := 78, attributes := #[] }, { accessFlags := 1, nameIndex := 123, descriptorIndex := 78, attributes := #[] }, { accessFlags := 1, nameIndex := 124, descriptorIndex := 78, attributes := #[] }, { accessFlags := 1, nameIndex := 126, descriptorIndex := 48, attributes := #[] }, { accessFlags := 1, nameIndex := 127, descriptorIndex := 48, attributes := #[] }, { accessFlags := 1, nameIndex := 128, descriptorIndex := 59, attributes := #[] }, { accessFlags := 1, nameIndex := 129, descriptorIndex := 59, attributes := #[] }, { accessFlags := 1, nameIndex := 31, descriptorIndex := 48, attributes := #[] }, { accessFlags := 1, nameIndex := 130, descriptorIndex := 71, attributes := #[] }] 49 2 #[] #[{ accessFlags := 25, nameIndex := 85, descriptorIndex := 41, attributes := #[] }, { accessFlags := 25, nameIndex := 88, descriptorIndex := 41, attributes := #[] }, { accessFlags := 25, nameIndex := 90, descriptorIndex := 41, attributes := #[] }, { accessFlags := 25, nameIndex := 92, descriptorIndex := 41, attributes := #[] }, { accessFlags := 25, nameIndex := 94, descriptorIndex := 41, attributes := #[] }, { accessFlags := 25, nameIndex := 96, descriptorIndex := 41, attributes := #[] }, { accessFlags := 25, nameIndex := 98, descriptorIndex := 41, attributes := #[] }, { accessFlags := 25, nameIndex := 100, descriptorIndex := 41, attributes := #[] }, { accessFlags := 25, nameIndex := 102, descriptorIndex := 41, attributes := #[] }, { accessFlags := 25, nameIndex := 103, descriptorIndex := 41, attributes := #[] }, { accessFlags := 25, nameIndex := 105, descriptorIndex := 41, attributes := #[] }, { accessFlags := 25, nameIndex := 107, descriptorIndex := 41, attributes := #[] }, { accessFlags := 25, nameIndex := 109, descriptorIndex := 41, attributes := #[] }, { accessFlags := 2, nameIndex := 40, descriptorIndex := 41, attributes := #[] }, { accessFlags := 2, nameIndex := 44, descriptorIndex := 41, attributes := #[] }, { accessFlags := 2, nameIndex := 11, descriptorIndex := 12, attributes := #[] }, { accessFlags := 2, nameIndex := 15, descriptorIndex := 16, attributes := #[] }, { accessFlags := 2, nameIndex := 19, descriptorIndex := 12, attributes := #[] }, { accessFlags := 2, nameIndex := 22, descriptorIndex := 12, attributes := #[] }, { accessFlags := 2, nameIndex := 25, descriptorIndex := 12, attributes := #[] }, { accessFlags := 2, nameIndex := 28, descriptorIndex := 12, attributes := #[] }, { accessFlags := 2, nameIndex := 31, descriptorIndex := 12, attributes := #[] }, { accessFlags := 2, nameIndex := 34, descriptorIndex := 12, attributes := #[] }, { accessFlags := 2, nameIndex := 37, descriptorIndex := 12, attributes := #[] }])
  fields := #[{ name := "OK", type := .int, accessFlags := 25, slot := 0, constantValue := 0 }, { name := "BAD", type := .int, accessFlags := 25, slot := 1, constantValue := 0 }, { name := "CRASHED", type := .int, accessFlags := 25, slot := 2, constantValue := 0 }, { name := "FULL", type := .int, accessFlags := 25, slot := 3, constantValue := 0 }, { name := "NO_COPY", type := .int, accessFlags := 25, slot := 4, constantValue := 0 }, { name := "DUPLICATE", type := .int, accessFlags := 25, slot := 5, constantValue := 0 }, { name := "NOT_LOGGED", type := .int, accessFlags := 25, slot := 6, constantValue := 0 }, { name := "LAST", type := .int, accessFlags := 25, slot := 7, constantValue := 0 }, { name := "NONE", type := .int, accessFlags := 25, slot := 8, constantValue := 0 }, { name := "HELD", type := .int, accessFlags := 25, slot := 9, constantValue := 0 }, { name := "LOGGED", type := .int, accessFlags := 25, slot := 10, constantValue := 0 }, { name := "PRUNED", type := .int, accessFlags := 25, slot := 11, constantValue := 0 }, { name := "MAX_COPIES", type := .int, accessFlags := 25, slot := 12, constantValue := 0 }, { name := "n", type := .int, accessFlags := 2, slot := 0, constantValue := 0 }, { name := "cap", type := .int, accessFlags := 2, slot := 1, constantValue := 0 }, { name := "sentCount", type := (.array .int), accessFlags := 2, slot := 2, constantValue := 0 }, { name := "crashedFlag", type := (.array .boolean), accessFlags := 2, slot := 3, constantValue := 0 }, { name := "del", type := (.array .int), accessFlags := 2, slot := 4, constantValue := 0 }, { name := "msgState", type := (.array .int), accessFlags := 2, slot := 5, constantValue := 0 }, { name := "stampArr", type := (.array .int), accessFlags := 2, slot := 6, constantValue := 0 }, { name := "copyArr", type := (.array .int), accessFlags := 2, slot := 7, constantValue := 0 }, { name := "known", type := (.array .int), accessFlags := 2, slot := 8, constantValue := 0 }, { name := "list", type := (.array .int), accessFlags := 2, slot := 9, constantValue := 0 }, { name := "listLen", type := (.array .int), accessFlags := 2, slot := 10, constantValue := 0 }]
  methods := #[k2m0, k2m1, k2m2, k2m3, k2m4, k2m5, k2m6, k2m7, k2m8, k2m9, k2m10, k2m11, k2m12, k2m13, k2m14, k2m15, k2m16, k2m17, k2m18, k2m19, k2m20, k2m21, k2m22, k2m23, k2m24, k2m25, k2m26]
  instanceTypes := #[.int, .int, (.array .int), (.array .boolean), (.array .int), (.array .int), (.array .int), (.array .int), (.array .int), (.array .int), (.array .int)]
  staticTypes := #[.int, .int, .int, .int, .int, .int, .int, .int, .int, .int, .int, .int, .int]
  resolved := Array.replicate 133 none
  statics := none }

def pool3 : Array CpInfo := pool [(1, u "java/lang/Cloneable"), (0, .class_ 1), (0, u "java/lang/Object"), (0, .class_ 3)] 3

/-- java/lang/Cloneable -/
def k3 : Class := { plain "java/lang/Cloneable" (some 0) with
  accessFlags := 1537
  interfaces := #[]
  cf := some (fileOf pool3 2 #[] #[] 1537 4 #[] #[])
  fields := #[]
  methods := #[]
  instanceTypes := #[]
  staticTypes := #[]
  resolved := Array.replicate 8 none
  statics := none }

def pool4 : Array CpInfo := pool [(1, u "java/io/Serializable"), (0, .class_ 1), (0, u "java/lang/Object"), (0, .class_ 3)] 3

/-- java/io/Serializable -/
def k4 : Class := { plain "java/io/Serializable" (some 0) with
  accessFlags := 1537
  interfaces := #[]
  cf := some (fileOf pool4 2 #[] #[] 1537 4 #[] #[])
  fields := #[]
  methods := #[]
  instanceTypes := #[]
  staticTypes := #[]
  resolved := Array.replicate 8 none
  statics := none }

/-- the primitive boolean -/
def k5 : Class := { plain "boolean" none with kind := .primitive 'Z', accessFlags := 0x411 }
/-- [Z -/
def k6 : Class := { plain "[Z" (some 0) with kind := .array 5 .boolean, interfaces := #[3, 4], accessFlags := 1041 }

/-- the primitive byte -/
def k7 : Class := { plain "byte" none with kind := .primitive 'B', accessFlags := 0x411 }
/-- [B -/
def k8 : Class := { plain "[B" (some 0) with kind := .array 7 .byte, interfaces := #[3, 4], accessFlags := 1041 }

/-- the primitive int -/
def k9 : Class := { plain "int" none with kind := .primitive 'I', accessFlags := 0x411 }
/-- [I -/
def k10 : Class := { plain "[I" (some 0) with kind := .array 9 .int, interfaces := #[3, 4], accessFlags := 1041 }

def heap : Heap := #[{ cls := 10, slots := #[.int 0, .int 1, .int 2, .int 3, .int 6, .int 1, .int 0, .int 0], vm := .none }]
def classes : Array Class := #[k0, k1, k2, k3, k4, k5, k6, k7, k8, k9, k10]
def interned : List (Array UInt16 × Addr) := []
def slotsUsed : Nat := 8
def theMethod : MethodId := ⟨1, 1⟩
def args0 : Array Value := #[.ref 0]
def aboutOver (below : List Frame) : State where
  vm := { classes := classes, interned := interned.toArray }
  heap := heap
  slotsUsed := slotsUsed
  threads := #[{ frames := .invoking theMethod args0 :: below }]
def below0 : List Frame := [.native { method := ⟨0, 0⟩, args := #[] }]
def about1 : State := aboutOver below0
def p0 : Program := .bare "" "" ""
def e0 : Env := launch0.env 0 0 0
theorem w_frames : about1.frames = Frame.invoking theMethod args0 :: below0 := rfl
set_option maxRecDepth 65536 in
theorem w_args : argsFit about1.vm theMethod args0 = true := by decide +kernel
set_option maxRecDepth 65536 in
theorem w_heap : heapFits about1 = true := by decide +kernel
set_option maxRecDepth 65536 in
theorem w_runnable : about1.curStatus? = some .runnable := by decide +kernel
set_option maxRecDepth 65536 in
theorem w_alone : about1.alone = true := by decide +kernel
set_option maxRecDepth 65536 in
theorem w_named : about1.methodNamed? x = some theMethod := by decide +kernel
set_option maxRecDepth 65536 in
theorem w_hears : about1.hears theMethod below0 = true := by decide +kernel
set_option maxRecDepth 65536 in
theorem w_ripe : about1.ripe theMethod args0 below0 = true := by decide +kernel
theorem w_running : about1.status = .running := rfl
set_option maxRecDepth 65536 in
theorem w_room : about1.hasRoom e0.platform room_1 = true :=
  launch0.hasRoom_least _ room_1 (by decide +kernel) (by decide +kernel) (by decide +kernel) (by decide +kernel) (by decide +kernel) (by decide +kernel)
theorem allAtoms_all (ts : List Jvm.Cond) (a : Array Jvm.Value) (st : Jvm.State) : (allAtoms ts).before a st = ts.all (fun c => c.before a st) := by
  induction ts with
  | nil => rfl
  | cons c t ih =>
    show (Jvm.Cond.and c (allAtoms t)).before a st = _
    rw [Jvm.Cond.before_and, ih, List.all_cons]
def words1 : List Jvm.Cond := Jvm.Cond.code x code maxLocals ret :: tables_1
/-- a 'code' word, met by the world's own term for the bytes: nothing is compared byte by byte -/
theorem code_word {y : MethodName} {bytes : ByteArray} {mx : Nat} {rt : Option FieldType} {a : Array Value} {s : State} {m : MethodId} {meth : Method} {c : Code} (h1 : s.methodNamed? y = some m) (h2 : s.vm.method? m = some meth) (h3 : meth.code = some c) (h4 : c.code = bytes)
    (h5 : (c.maxLocals == mx && c.exceptionTable.isEmpty && decide (c.maxStack ≤ mostOperands) && decide (meth.sig.returnType = rt) && !meth.locks && decide (parseMethodDescriptor y.desc = some meth.sig)) = true) : (Jvm.Cond.code y bytes mx rt).before a s = true := by
  simp only [Bool.and_eq_true, beq_iff_eq, Bool.not_eq_true', decide_eq_true_eq] at h5
  obtain ⟨⟨⟨⟨⟨g1, g2⟩, g3⟩, g4⟩, g5⟩, g6⟩ := h5
  simp [Cond.before, Cond.holds, Cond.value, h1, h2, h3, h4, g1, g2, g3, g4, g5, g6]
def isCode : Jvm.Cond → Bool
  | .code _ _ _ _ => true
  | _ => false
theorem all_split {L : List Jvm.Cond} {P : Jvm.Cond → Bool} (h1 : L.all (fun c => isCode c || P c) = true) (h2 : ∀ c ∈ L.filter isCode, P c = true) : L.all P = true := by
  refine List.all_eq_true.mpr fun c hc => ?_
  have h := List.all_eq_true.mp h1 c hc
  rcases Bool.eq_false_or_eq_true (isCode c) with hi | hi
  · exact h2 c (List.mem_filter.mpr ⟨hc, hi⟩)
  · simpa [hi] using h
set_option maxRecDepth 65536 in
theorem w_c0 : (Jvm.Cond.code x code maxLocals ret).before args0 about1 = true := code_word (m := ⟨1, 1⟩) (meth := k1m1) (c := k1c1) (by decide +kernel) rfl rfl rfl (by decide +kernel)
set_option maxRecDepth 65536 in
theorem w_c1 : (Jvm.Cond.code ({ cls := "CausalStable", name := "<init>", desc := "(II)V" } : Jvm.MethodName) prog_1_method_1_code (5 : Nat) (Option.none : Option Jvm.ClassFile.FieldType)).before args0 about1 = true := code_word (m := ⟨2, 0⟩) (meth := k2m0) (c := k2c0) (by decide +kernel) rfl rfl rfl (by decide +kernel)
set_option maxRecDepth 65536 in
theorem w_c2 : (Jvm.Cond.code ({ cls := "java/lang/Object", name := "<init>", desc := "()V" } : Jvm.MethodName) object_method_1_code (1 : Nat) (Option.none : Option Jvm.ClassFile.FieldType)).before args0 about1 = true := code_word (m := ⟨0, 0⟩) (meth := k0m0) (c := k0c0) (by decide +kernel) rfl rfl rfl (by decide +kernel)
set_option maxRecDepth 65536 in
theorem w_c3 : (Jvm.Cond.code ({ cls := "CausalStable", name := "broadcast", desc := "(I)I" } : Jvm.MethodName) prog_1_method_13_code (5 : Nat) (Option.some Jvm.ClassFile.FieldType.int)).before args0 about1 = true := code_word (m := ⟨2, 12⟩) (meth := k2m12) (c := k2c12) (by decide +kernel) rfl rfl rfl (by decide +kernel)
set_option maxRecDepth 65536 in
theorem w_c4 : (Jvm.Cond.code ({ cls := "CausalStable", name := "validProc", desc := "(I)Z" } : Jvm.MethodName) prog_1_method_2_code (2 : Nat) (Option.some Jvm.ClassFile.FieldType.boolean)).before args0 about1 = true := code_word (m := ⟨2, 1⟩) (meth := k2m1) (c := k2c1) (by decide +kernel) rfl rfl rfl (by decide +kernel)
set_option maxRecDepth 65536 in
theorem w_c5 : (Jvm.Cond.code ({ cls := "CausalStable", name := "msgIndex", desc := "(II)I" } : Jvm.MethodName) prog_1_method_4_code (3 : Nat) (Option.some Jvm.ClassFile.FieldType.int)).before args0 about1 = true := code_word (m := ⟨2, 3⟩) (meth := k2m3) (c := k2c3) (by decide +kernel) rfl rfl rfl (by decide +kernel)
set_option maxRecDepth 65536 in
theorem w_c6 : (Jvm.Cond.code ({ cls := "CausalStable", name := "deliverAt", desc := "(III)V" } : Jvm.MethodName) prog_1_method_8_code (7 : Nat) (Option.none : Option Jvm.ClassFile.FieldType)).before args0 about1 = true := code_word (m := ⟨2, 7⟩) (meth := k2m7) (c := k2c7) (by decide +kernel) rfl rfl rfl (by decide +kernel)
set_option maxRecDepth 65536 in
theorem w_c7 : (Jvm.Cond.code ({ cls := "CausalStable", name := "stateIndex", desc := "(III)I" } : Jvm.MethodName) prog_1_method_5_code (4 : Nat) (Option.some Jvm.ClassFile.FieldType.int)).before args0 about1 = true := code_word (m := ⟨2, 4⟩) (meth := k2m4) (c := k2c4) (by decide +kernel) rfl rfl rfl (by decide +kernel)
set_option maxRecDepth 65536 in
theorem w_c8 : (Jvm.Cond.code ({ cls := "CausalStable", name := "knownIndex", desc := "(III)I" } : Jvm.MethodName) prog_1_method_7_code (4 : Nat) (Option.some Jvm.ClassFile.FieldType.int)).before args0 about1 = true := code_word (m := ⟨2, 6⟩) (meth := k2m6) (c := k2c6) (by decide +kernel) rfl rfl rfl (by decide +kernel)
set_option maxRecDepth 65536 in
theorem w_c9 : (Jvm.Cond.code ({ cls := "CausalStableL6", name := "copySum", desc := "(LCausalStable;)I" } : Jvm.MethodName) method_4_code (4 : Nat) (Option.some Jvm.ClassFile.FieldType.int)).before args0 about1 = true := code_word (m := ⟨1, 3⟩) (meth := k1m3) (c := k1c3) (by decide +kernel) rfl rfl rfl (by decide +kernel)
set_option maxRecDepth 65536 in
theorem w_c10 : (Jvm.Cond.code ({ cls := "CausalStable", name := "copies", desc := "(III)I" } : Jvm.MethodName) prog_1_method_23_code (5 : Nat) (Option.some Jvm.ClassFile.FieldType.int)).before args0 about1 = true := code_word (m := ⟨2, 21⟩) (meth := k2m21) (c := k2c21) (by decide +kernel) rfl rfl rfl (by decide +kernel)
set_option maxRecDepth 65536 in
theorem w_c11 : (Jvm.Cond.code ({ cls := "CausalStable", name := "exists", desc := "(II)Z" } : Jvm.MethodName) prog_1_method_3_code (3 : Nat) (Option.some Jvm.ClassFile.FieldType.boolean)).before args0 about1 = true := code_word (m := ⟨2, 2⟩) (meth := k2m2) (c := k2c2) (by decide +kernel) rfl rfl rfl (by decide +kernel)
set_option maxRecDepth 65536 in
theorem w_c12 : (Jvm.Cond.code ({ cls := "CausalStable", name := "copyIndex", desc := "(III)I" } : Jvm.MethodName) prog_1_method_6_code (4 : Nat) (Option.some Jvm.ClassFile.FieldType.int)).before args0 about1 = true := code_word (m := ⟨2, 5⟩) (meth := k2m5) (c := k2c5) (by decide +kernel) rfl rfl rfl (by decide +kernel)
set_option maxRecDepth 65536 in
theorem w_c13 : (Jvm.Cond.code ({ cls := "CausalStableL6", name := "prunedCount", desc := "(LCausalStable;)I" } : Jvm.MethodName) method_5_code (3 : Nat) (Option.some Jvm.ClassFile.FieldType.int)).before args0 about1 = true := code_word (m := ⟨1, 4⟩) (meth := k1m4) (c := k1c4) (by decide +kernel) rfl rfl rfl (by decide +kernel)
set_option maxRecDepth 65536 in
theorem w_c14 : (Jvm.Cond.code ({ cls := "CausalStable", name := "state", desc := "(III)I" } : Jvm.MethodName) prog_1_method_24_code (5 : Nat) (Option.some Jvm.ClassFile.FieldType.int)).before args0 about1 = true := code_word (m := ⟨2, 22⟩) (meth := k2m22) (c := k2c22) (by decide +kernel) rfl rfl rfl (by decide +kernel)
set_option maxRecDepth 65536 in
theorem w_c15 : (Jvm.Cond.code ({ cls := "CausalStableL6", name := "procOk", desc := "(LCausalStable;IIIZ)Z" } : Jvm.MethodName) method_3_code (10 : Nat) (Option.some Jvm.ClassFile.FieldType.boolean)).before args0 about1 = true := code_word (m := ⟨1, 2⟩) (meth := k1m2) (c := k1c2) (by decide +kernel) rfl rfl rfl (by decide +kernel)
set_option maxRecDepth 65536 in
theorem w_c16 : (Jvm.Cond.code ({ cls := "CausalStable", name := "sent", desc := "(I)I" } : Jvm.MethodName) prog_1_method_21_code (2 : Nat) (Option.some Jvm.ClassFile.FieldType.int)).before args0 about1 = true := code_word (m := ⟨2, 20⟩) (meth := k2m20) (c := k2c20) (by decide +kernel) rfl rfl rfl (by decide +kernel)
set_option maxRecDepth 65536 in
theorem w_c17 : (Jvm.Cond.code ({ cls := "CausalStable", name := "isCrashed", desc := "(I)Z" } : Jvm.MethodName) prog_1_method_28_code (2 : Nat) (Option.some Jvm.ClassFile.FieldType.boolean)).before args0 about1 = true := code_word (m := ⟨2, 26⟩) (meth := k2m26) (c := k2c26) (by decide +kernel) rfl rfl rfl (by decide +kernel)
set_option maxRecDepth 65536 in
theorem w_c18 : (Jvm.Cond.code ({ cls := "CausalStable", name := "deliveredAt", desc := "(II)I" } : Jvm.MethodName) prog_1_method_26_code (3 : Nat) (Option.some Jvm.ClassFile.FieldType.int)).before args0 about1 = true := code_word (m := ⟨2, 24⟩) (meth := k2m24) (c := k2c24) (by decide +kernel) rfl rfl rfl (by decide +kernel)
set_option maxRecDepth 65536 in
theorem w_c19 : (Jvm.Cond.code ({ cls := "CausalStable", name := "delivered", desc := "(II)I" } : Jvm.MethodName) prog_1_method_25_code (3 : Nat) (Option.some Jvm.ClassFile.FieldType.int)).before args0 about1 = true := code_word (m := ⟨2, 23⟩) (meth := k2m23) (c := k2c23) (by decide +kernel) rfl rfl rfl (by decide +kernel)
set_option maxRecDepth 65536 in
theorem w_c20 : (Jvm.Cond.code ({ cls := "CausalStable", name := "known", desc := "(III)I" } : Jvm.MethodName) prog_1_method_27_code (5 : Nat) (Option.some Jvm.ClassFile.FieldType.int)).before args0 about1 = true := code_word (m := ⟨2, 25⟩) (meth := k2m25) (c := k2c25) (by decide +kernel) rfl rfl rfl (by decide +kernel)
set_option maxRecDepth 65536 in
theorem w_c21 : (Jvm.Cond.code ({ cls := "CausalStable", name := "duplicate", desc := "(III)I" } : Jvm.MethodName) prog_1_method_15_code (5 : Nat) (Option.some Jvm.ClassFile.FieldType.int)).before args0 about1 = true := code_word (m := ⟨2, 14⟩) (meth := k2m14) (c := k2c14) (by decide +kernel) rfl rfl rfl (by decide +kernel)
set_option maxRecDepth 65536 in
theorem w_c22 : (Jvm.Cond.code ({ cls := "CausalStable", name := "crash", desc := "(I)I" } : Jvm.MethodName) prog_1_method_20_code (2 : Nat) (Option.some Jvm.ClassFile.FieldType.int)).before args0 about1 = true := code_word (m := ⟨2, 19⟩) (meth := k2m19) (c := k2c19) (by decide +kernel) rfl rfl rfl (by decide +kernel)
set_option maxRecDepth 65536 in
theorem w_c23 : (Jvm.Cond.code ({ cls := "CausalStable", name := "othersAllCrashed", desc := "(I)Z" } : Jvm.MethodName) prog_1_method_12_code (3 : Nat) (Option.some Jvm.ClassFile.FieldType.boolean)).before args0 about1 = true := code_word (m := ⟨2, 11⟩) (meth := k2m11) (c := k2c11) (by decide +kernel) rfl rfl rfl (by decide +kernel)
set_option maxRecDepth 65536 in
theorem w_c24 : (Jvm.Cond.code ({ cls := "CausalStable", name := "receive", desc := "(III)I" } : Jvm.MethodName) prog_1_method_14_code (6 : Nat) (Option.some Jvm.ClassFile.FieldType.int)).before args0 about1 = true := code_word (m := ⟨2, 13⟩) (meth := k2m13) (c := k2c13) (by decide +kernel) rfl rfl rfl (by decide +kernel)
set_option maxRecDepth 65536 in
theorem w_c25 : (Jvm.Cond.code ({ cls := "CausalStable", name := "prune", desc := "(I)I" } : Jvm.MethodName) prog_1_method_19_code (7 : Nat) (Option.some Jvm.ClassFile.FieldType.int)).before args0 about1 = true := code_word (m := ⟨2, 18⟩) (meth := k2m18) (c := k2c18) (by decide +kernel) rfl rfl rfl (by decide +kernel)
set_option maxRecDepth 65536 in
theorem w_c26 : (Jvm.Cond.code ({ cls := "CausalStable", name := "drop", desc := "(III)I" } : Jvm.MethodName) prog_1_method_16_code (5 : Nat) (Option.some Jvm.ClassFile.FieldType.int)).before args0 about1 = true := code_word (m := ⟨2, 15⟩) (meth := k2m15) (c := k2c15) (by decide +kernel) rfl rfl rfl (by decide +kernel)
set_option maxRecDepth 65536 in
theorem w_c27 : (Jvm.Cond.code ({ cls := "CausalStable", name := "retransmit", desc := "(IIII)I" } : Jvm.MethodName) prog_1_method_17_code (7 : Nat) (Option.some Jvm.ClassFile.FieldType.int)).before args0 about1 = true := code_word (m := ⟨2, 16⟩) (meth := k2m16) (c := k2c16) (by decide +kernel) rfl rfl rfl (by decide +kernel)
set_option maxRecDepth 65536 in
theorem w_c28 : (Jvm.Cond.code ({ cls := "CausalStable", name := "gossip", desc := "(II)I" } : Jvm.MethodName) prog_1_method_18_code (7 : Nat) (Option.some Jvm.ClassFile.FieldType.int)).before args0 about1 = true := code_word (m := ⟨2, 17⟩) (meth := k2m17) (c := k2c17) (by decide +kernel) rfl rfl rfl (by decide +kernel)
set_option maxRecDepth 65536 in
theorem w_c29 : (Jvm.Cond.code ({ cls := "CausalStable", name := "isStable", desc := "(III)Z" } : Jvm.MethodName) prog_1_method_11_code (6 : Nat) (Option.some Jvm.ClassFile.FieldType.boolean)).before args0 about1 = true := code_word (m := ⟨2, 10⟩) (meth := k2m10) (c := k2c10) (by decide +kernel) rfl rfl rfl (by decide +kernel)
set_option maxRecDepth 65536 in
theorem w_c30 : (Jvm.Cond.code ({ cls := "CausalStable", name := "cascade", desc := "(I)I" } : Jvm.MethodName) prog_1_method_10_code (8 : Nat) (Option.some Jvm.ClassFile.FieldType.int)).before args0 about1 = true := code_word (m := ⟨2, 9⟩) (meth := k2m9) (c := k2c9) (by decide +kernel) rfl rfl rfl (by decide +kernel)
set_option maxRecDepth 65536 in
theorem w_c31 : (Jvm.Cond.code ({ cls := "CausalStable", name := "isDeliverable", desc := "(III)Z" } : Jvm.MethodName) prog_1_method_9_code (7 : Nat) (Option.some Jvm.ClassFile.FieldType.boolean)).before args0 about1 = true := code_word (m := ⟨2, 8⟩) (meth := k2m8) (c := k2c8) (by decide +kernel) rfl rfl rfl (by decide +kernel)
def codes1 : List Jvm.Cond := [Jvm.Cond.code x code maxLocals ret, Jvm.Cond.code ({ cls := "CausalStable", name := "<init>", desc := "(II)V" } : Jvm.MethodName) prog_1_method_1_code (5 : Nat) (Option.none : Option Jvm.ClassFile.FieldType), Jvm.Cond.code ({ cls := "java/lang/Object", name := "<init>", desc := "()V" } : Jvm.MethodName) object_method_1_code (1 : Nat) (Option.none : Option Jvm.ClassFile.FieldType), Jvm.Cond.code ({ cls := "CausalStable", name := "broadcast", desc := "(I)I" } : Jvm.MethodName) prog_1_method_13_code (5 : Nat) (Option.some Jvm.ClassFile.FieldType.int), Jvm.Cond.code ({ cls := "CausalStable", name := "validProc", desc := "(I)Z" } : Jvm.MethodName) prog_1_method_2_code (2 : Nat) (Option.some Jvm.ClassFile.FieldType.boolean), Jvm.Cond.code ({ cls := "CausalStable", name := "msgIndex", desc := "(II)I" } : Jvm.MethodName) prog_1_method_4_code (3 : Nat) (Option.some Jvm.ClassFile.FieldType.int), Jvm.Cond.code ({ cls := "CausalStable", name := "deliverAt", desc := "(III)V" } : Jvm.MethodName) prog_1_method_8_code (7 : Nat) (Option.none : Option Jvm.ClassFile.FieldType), Jvm.Cond.code ({ cls := "CausalStable", name := "stateIndex", desc := "(III)I" } : Jvm.MethodName) prog_1_method_5_code (4 : Nat) (Option.some Jvm.ClassFile.FieldType.int), Jvm.Cond.code ({ cls := "CausalStable", name := "knownIndex", desc := "(III)I" } : Jvm.MethodName) prog_1_method_7_code (4 : Nat) (Option.some Jvm.ClassFile.FieldType.int), Jvm.Cond.code ({ cls := "CausalStableL6", name := "copySum", desc := "(LCausalStable;)I" } : Jvm.MethodName) method_4_code (4 : Nat) (Option.some Jvm.ClassFile.FieldType.int), Jvm.Cond.code ({ cls := "CausalStable", name := "copies", desc := "(III)I" } : Jvm.MethodName) prog_1_method_23_code (5 : Nat) (Option.some Jvm.ClassFile.FieldType.int), Jvm.Cond.code ({ cls := "CausalStable", name := "exists", desc := "(II)Z" } : Jvm.MethodName) prog_1_method_3_code (3 : Nat) (Option.some Jvm.ClassFile.FieldType.boolean), Jvm.Cond.code ({ cls := "CausalStable", name := "copyIndex", desc := "(III)I" } : Jvm.MethodName) prog_1_method_6_code (4 : Nat) (Option.some Jvm.ClassFile.FieldType.int), Jvm.Cond.code ({ cls := "CausalStableL6", name := "prunedCount", desc := "(LCausalStable;)I" } : Jvm.MethodName) method_5_code (3 : Nat) (Option.some Jvm.ClassFile.FieldType.int), Jvm.Cond.code ({ cls := "CausalStable", name := "state", desc := "(III)I" } : Jvm.MethodName) prog_1_method_24_code (5 : Nat) (Option.some Jvm.ClassFile.FieldType.int), Jvm.Cond.code ({ cls := "CausalStableL6", name := "procOk", desc := "(LCausalStable;IIIZ)Z" } : Jvm.MethodName) method_3_code (10 : Nat) (Option.some Jvm.ClassFile.FieldType.boolean), Jvm.Cond.code ({ cls := "CausalStable", name := "sent", desc := "(I)I" } : Jvm.MethodName) prog_1_method_21_code (2 : Nat) (Option.some Jvm.ClassFile.FieldType.int), Jvm.Cond.code ({ cls := "CausalStable", name := "isCrashed", desc := "(I)Z" } : Jvm.MethodName) prog_1_method_28_code (2 : Nat) (Option.some Jvm.ClassFile.FieldType.boolean), Jvm.Cond.code ({ cls := "CausalStable", name := "deliveredAt", desc := "(II)I" } : Jvm.MethodName) prog_1_method_26_code (3 : Nat) (Option.some Jvm.ClassFile.FieldType.int), Jvm.Cond.code ({ cls := "CausalStable", name := "delivered", desc := "(II)I" } : Jvm.MethodName) prog_1_method_25_code (3 : Nat) (Option.some Jvm.ClassFile.FieldType.int), Jvm.Cond.code ({ cls := "CausalStable", name := "known", desc := "(III)I" } : Jvm.MethodName) prog_1_method_27_code (5 : Nat) (Option.some Jvm.ClassFile.FieldType.int), Jvm.Cond.code ({ cls := "CausalStable", name := "duplicate", desc := "(III)I" } : Jvm.MethodName) prog_1_method_15_code (5 : Nat) (Option.some Jvm.ClassFile.FieldType.int), Jvm.Cond.code ({ cls := "CausalStable", name := "crash", desc := "(I)I" } : Jvm.MethodName) prog_1_method_20_code (2 : Nat) (Option.some Jvm.ClassFile.FieldType.int), Jvm.Cond.code ({ cls := "CausalStable", name := "othersAllCrashed", desc := "(I)Z" } : Jvm.MethodName) prog_1_method_12_code (3 : Nat) (Option.some Jvm.ClassFile.FieldType.boolean), Jvm.Cond.code ({ cls := "CausalStable", name := "receive", desc := "(III)I" } : Jvm.MethodName) prog_1_method_14_code (6 : Nat) (Option.some Jvm.ClassFile.FieldType.int), Jvm.Cond.code ({ cls := "CausalStable", name := "prune", desc := "(I)I" } : Jvm.MethodName) prog_1_method_19_code (7 : Nat) (Option.some Jvm.ClassFile.FieldType.int), Jvm.Cond.code ({ cls := "CausalStable", name := "drop", desc := "(III)I" } : Jvm.MethodName) prog_1_method_16_code (5 : Nat) (Option.some Jvm.ClassFile.FieldType.int), Jvm.Cond.code ({ cls := "CausalStable", name := "retransmit", desc := "(IIII)I" } : Jvm.MethodName) prog_1_method_17_code (7 : Nat) (Option.some Jvm.ClassFile.FieldType.int), Jvm.Cond.code ({ cls := "CausalStable", name := "gossip", desc := "(II)I" } : Jvm.MethodName) prog_1_method_18_code (7 : Nat) (Option.some Jvm.ClassFile.FieldType.int), Jvm.Cond.code ({ cls := "CausalStable", name := "isStable", desc := "(III)Z" } : Jvm.MethodName) prog_1_method_11_code (6 : Nat) (Option.some Jvm.ClassFile.FieldType.boolean), Jvm.Cond.code ({ cls := "CausalStable", name := "cascade", desc := "(I)I" } : Jvm.MethodName) prog_1_method_10_code (8 : Nat) (Option.some Jvm.ClassFile.FieldType.int), Jvm.Cond.code ({ cls := "CausalStable", name := "isDeliverable", desc := "(III)Z" } : Jvm.MethodName) prog_1_method_9_code (7 : Nat) (Option.some Jvm.ClassFile.FieldType.boolean)]
set_option maxRecDepth 65536 in
theorem codes_eq : words1.filter isCode = codes1 := rfl
theorem w_codes : ∀ c ∈ words1.filter isCode, c.before args0 about1 = true := by
  rw [codes_eq]
  intro c hc
  simp only [codes1, List.mem_cons, List.not_mem_nil, or_false] at hc
  rcases hc with rfl | rfl | rfl | rfl | rfl | rfl | rfl | rfl | rfl | rfl | rfl | rfl | rfl | rfl | rfl | rfl | rfl | rfl | rfl | rfl | rfl | rfl | rfl | rfl | rfl | rfl | rfl | rfl | rfl | rfl | rfl | rfl
  · exact w_c0
  · exact w_c1
  · exact w_c2
  · exact w_c3
  · exact w_c4
  · exact w_c5
  · exact w_c6
  · exact w_c7
  · exact w_c8
  · exact w_c9
  · exact w_c10
  · exact w_c11
  · exact w_c12
  · exact w_c13
  · exact w_c14
  · exact w_c15
  · exact w_c16
  · exact w_c17
  · exact w_c18
  · exact w_c19
  · exact w_c20
  · exact w_c21
  · exact w_c22
  · exact w_c23
  · exact w_c24
  · exact w_c25
  · exact w_c26
  · exact w_c27
  · exact w_c28
  · exact w_c29
  · exact w_c30
  · exact w_c31
set_option maxRecDepth 65536 in
theorem w_t1 : (words1.take 24).all (fun c => isCode c || c.before args0 about1) = true := by decide +kernel
set_option maxRecDepth 65536 in
theorem w_t2 : ((words1.drop 24).take 24).all (fun c => isCode c || c.before args0 about1) = true := by decide +kernel
set_option maxRecDepth 65536 in
theorem w_t3 : (((words1.drop 24).drop 24).take 24).all (fun c => isCode c || c.before args0 about1) = true := by decide +kernel
set_option maxRecDepth 65536 in
theorem w_t4 : ((((words1.drop 24).drop 24).drop 24).take 24).all (fun c => isCode c || c.before args0 about1) = true := by decide +kernel
set_option maxRecDepth 65536 in
theorem w_t5 : (((((words1.drop 24).drop 24).drop 24).drop 24).take 24).all (fun c => isCode c || c.before args0 about1) = true := by decide +kernel
set_option maxRecDepth 65536 in
theorem w_t6 : ((((((words1.drop 24).drop 24).drop 24).drop 24).drop 24).take 24).all (fun c => isCode c || c.before args0 about1) = true := by decide +kernel
set_option maxRecDepth 65536 in
theorem w_t7 : ((((((words1.drop 24).drop 24).drop 24).drop 24).drop 24).drop 24).all (fun c => isCode c || c.before args0 about1) = true := by decide +kernel
theorem w_tables : (allAtoms (Jvm.Cond.code x code maxLocals ret :: tables_1)).before args0 about1 = true := by
  rw [allAtoms_all]
  show words1.all (fun c => c.before args0 about1) = true
  refine all_split ?_ w_codes
  rw [← List.take_append_drop 24 words1, List.all_append, w_t1, ← List.take_append_drop 24 (words1.drop 24), List.all_append, w_t2, ← List.take_append_drop 24 ((words1.drop 24).drop 24), List.all_append, w_t3, ← List.take_append_drop 24 (((words1.drop 24).drop 24).drop 24), List.all_append, w_t4, ← List.take_append_drop 24 ((((words1.drop 24).drop 24).drop 24).drop 24), List.all_append, w_t5, ← List.take_append_drop 24 (((((words1.drop 24).drop 24).drop 24).drop 24).drop 24), List.all_append, w_t6, w_t7]
  rfl
set_option maxRecDepth 65536 in
theorem w_rest : rest_1_c.before args0 about1 = true := by decide +kernel
set_option maxRecDepth 65536 in
theorem w_case : (Jvm.Cond.and given_1 narrow_1).before args0 about1 = true := by decide +kernel
theorem w_applies : (headSpec (Jvm.Cond.code x code maxLocals ret :: tables_1) room_1).applies x e0.platform about1 = true :=
  (Spec.applies_iff w_frames).mpr ⟨w_running, w_runnable, w_alone, w_named, w_hears, w_ripe, w_room, w_tables⟩
theorem atStart : AtStart classFile x code maxLocals ret World_1 tables_1 room_1 Calls_1 rest_1 Pre_1 launch0 p0 e0 about1 theMethod args0 below0 :=
  ⟨lists_1, trivial, launch0.admits_env _ _ _, launch0.least_env, fairChoices_fair.cas, fairChoices_fair.clock, w_frames, w_args, w_heap, w_applies, trivial, w_rest, w_case⟩
end start1
theorem witness_1 : WitnessClaimed_1 := ⟨start1.p0, start1.e0, start1.about1, start1.theMethod, start1.args0, start1.below0, start1.atStart⟩
end Jvm.Pilot.@@N@@
