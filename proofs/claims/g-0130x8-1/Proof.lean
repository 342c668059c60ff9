import JvmDerived
import JvmDerived.Pilot.@@N@@Statement
import JvmDerived.Pilot.@@N@@Code
set_option linter.unusedVariables false
set_option linter.unusedSimpArgs false
namespace Jvm.RoadKit
open Sem ClassFile Op Lib Jvm.Stand Jvm.Free Jvm.LawKit
section New
variable {p : Program} {l : Launch} {e : Env} {R : Room} {s : State} {m : MethodId} {args : Array Value} {below : List Frame} {meth : Method} {c : Code} {T : State} {locs : List Loc} {cells slots : Nat}
theorem retI (X : Stand p l e R s m args below meth c T locs cells slots) (hx : p.tables.exec = Jvm.exec) {pc : Nat} {Ls : Array Slot} {z : Int32} {rest : List Value} (hret : meth.sig.returnType = some .int) (hd : decode c.code pc = .ok (.ireturn, 1)) {fs : List Frame}
    (hl : ∀ (f : JFrame) (acts : List Action), f.method = m → f.locked = none → f.entered = [] → (doReturn e (T.setTop f) acts (some (.int z))).1 = T.setFrames fs) : Steps p.tables e below (T.setTop (mkF m pc Ls (.int z :: rest))) (T.setFrames fs) := by
  have hm' : T.vm.method? m = some meth := X.method'
  have hn : narrow .int (.int z) = .int z := rfl
  show Steps p.tables e below (T.setTop { method := m, pc := pc, locals := Ls, stack := _ :: rest, locked := none }) _
  jvm_step X.here [X.here.top, hx, hd, hm', hret, hn]
  first | (intro acts; rw [hl _ acts rfl rfl rfl]) | rw [hl _ _ rfl rfl rfl]
  exact Steps.refl _
end New
end Jvm.RoadKit
namespace Jvm.Pilot.@@N@@
open Jvm Jvm.ClassFile Sem Op Lib Jvm.Free Jvm.Stand Jvm.LawKit Jvm.RoadKit Bundle Jvm.Pilot.@@N@@.Jvm.D
/- records: scalars, int-like arrays, long arrays -/
abbrev Rec : Type := (Nat → Int32) × (Nat → Int32 → Int32) × (Nat → Int32 → Int64)
def zrec : Rec := (fun _ => 0, fun _ _ => 0, fun _ _ => 0)
def gI (ob : Rec) (k : Nat) : Int32 := ob.1 k
def gA (ob : Rec) (k : Nat) (i : Int32) : Int32 := ob.2.1 k i
def gJ (ob : Rec) (k : Nat) (i : Int32) : Int64 := ob.2.2 k i
def sI (ob : Rec) (k : Nat) (v : Int32) : Rec := (fun j => if j = k then v else ob.1 j, ob.2)
def sA (ob : Rec) (k : Nat) (i v : Int32) : Rec := (ob.1, fun j x => if j = k ∧ x = i then v else ob.2.1 j x, ob.2.2)
def sJ (ob : Rec) (k : Nat) (i : Int32) (v : Int64) : Rec := (ob.1, ob.2.1, fun j x => if j = k ∧ x = i then v else ob.2.2 j x)
def chk {γ : Type} (n i : Int32) (A : Option γ) : Option γ := if i < 0 then none else if i < n then A else none
def dvz {γ : Type} (y : Int32) (A : Option γ) : Option γ := if y = 0 then none else A
def bind2 {α β γ : Type} (o : Option (α × β)) (f : α → β → Option γ) : Option γ := o.bind fun q => f q.1 q.2
def bind3 {α β γ δ : Type} (o : Option (α × β × δ)) (f : α → β → δ → Option γ) : Option γ := o.bind fun q => f q.1 q.2.1 q.2.2
theorem ite_el {c : Prop} [Decidable c] {γ : Type} {A B : Option γ} {r : γ} {Q : Prop} (h : (if c then A else B) = some r) (t : c → A = some r → Q) (e : ¬ c → B = some r → Q) : Q := by
  by_cases hc : c
  · rw [if_pos hc] at h; exact t hc h
  · rw [if_neg hc] at h; exact e hc h
theorem bind_el {α γ : Type} {o : Option α} {f : α → Option γ} {r : γ} {Q : Prop} (h : o.bind f = some r) (k : ∀ x, o = some x → f x = some r → Q) : Q := by
  cases o with
  | none => cases h
  | some x => exact k x rfl h
theorem bind2_el {α β γ : Type} {o : Option (α × β)} {f : α → β → Option γ} {r : γ} {Q : Prop} (h : bind2 o f = some r) (k : ∀ x y, o = some (x, y) → f x y = some r → Q) : Q := by
  rcases o with _ | ⟨x, y⟩
  · cases h
  · exact k x y rfl h
theorem bind3_el {α β γ δ : Type} {o : Option (α × β × δ)} {f : α → β → δ → Option γ} {r : γ} {Q : Prop} (h : bind3 o f = some r) (k : ∀ x y z, o = some (x, y, z) → f x y z = some r → Q) : Q := by
  rcases o with _ | ⟨x, y, z⟩
  · cases h
  · exact k x y z rfl h
theorem chk_el {γ : Type} {n i : Int32} {A : Option γ} {r : γ} {Q : Prop} (h : chk n i A = some r) (k : (¬ i < 0 ∧ i < n) → A = some r → Q) : Q := by
  unfold chk at h
  by_cases h0 : i < 0
  · rw [if_pos h0] at h; cases h
  · rw [if_neg h0] at h
    by_cases h1 : i < n
    · rw [if_pos h1] at h; exact k ⟨h0, h1⟩ h
    · rw [if_neg h1] at h; cases h
theorem dvz_el {γ : Type} {y : Int32} {A : Option γ} {r : γ} {Q : Prop} (h : dvz y A = some r) (k : y ≠ 0 → A = some r → Q) : Q := by
  unfold dvz at h
  by_cases h0 : y = 0
  · rw [if_pos h0] at h; cases h
  · rw [if_neg h0] at h; exact k h0 h
def All {α : Type} (p : α → Prop) : List α → Prop
  | [] => True
  | x :: l => p x ∧ All p l
theorem All.mem {α : Type} {p : α → Prop} : ∀ {l : List α}, All p l → ∀ {x : α}, x ∈ l → p x
  | [], _, _, h => nomatch h
  | _ :: _, H, _, h => (List.mem_cons.mp h).elim (fun e => e ▸ H.1) (fun e => All.mem H.2 e)
def el (ty : FieldType) (ob : Rec) (k : Nat) (j : Int32) : Value := match ty with
  | .long => .long (ob.2.2 k j)
  | _ => .int (ob.2.1 k j)
def aD (ty : FieldType) : String := match ty with
  | .int => "[I"
  | .boolean => "[Z"
  | _ => "[J"
abbrev Cls : Type := String × List (String × String) × List (String × FieldType × Int32)
abbrev mem1 (k : Nat) {d : Jvm.Cond} (h : tables_1[k]? = some d) : d ∈ tables_1 := List.mem_of_getElem? h
abbrev sOk (C : String) (nd : String × String) : Prop := (Jvm.Cond.lays C C nd.1 nd.2 ∈ tables_1 ∨ Jvm.Cond.laysFinal C C nd.1 nd.2 ∈ tables_1) ∧ (nd.2 = "I" ∨ nd.2 = "Z")
abbrev aOk (C : String) (t : String × FieldType × Int32) : Prop := (Jvm.Cond.lays C C t.1 (aD t.2.1) ∈ tables_1 ∨ Jvm.Cond.laysFinal C C t.1 (aD t.2.1) ∈ tables_1) ∧ (t.2.1 = .int ∨ t.2.1 = .boolean ∨ t.2.1 = .long) ∧ ¬ t.2.2 < 0
def K : Cls := ("WsClockPager", [("procs", "I"), ("pages", "I"), ("frames", "I"), ("tau", "I"), ("status", "I"), ("suspensionCount", "I"), ("readmissionCount", "I"), ("hand", "I")], [("suspended", .boolean, 4), ("vtime", .int, 4), ("winLen", .int, 4), ("winHead", .int, 4), ("wsSize", .int, 4), ("touchedCount", .int, 4), ("ring", .int, 64), ("winCount", .int, 64), ("touched", .boolean, 64), ("pageFrame", .int, 64), ("pageSlot", .int, 64), ("pageLastUse", .int, 64), ("frameOwner", .int, 32), ("frameRef", .boolean, 32), ("frameDirty", .boolean, 32), ("frameWords", .int, 128), ("slotUsed", .boolean, 64), ("swapWords", .int, 256)])
theorem kS : All (sOk K.1) K.2.1 := ⟨⟨Or.inl (mem1 52 rfl), Or.inl rfl⟩, ⟨Or.inl (mem1 54 rfl), Or.inl rfl⟩, ⟨Or.inl (mem1 56 rfl), Or.inl rfl⟩, ⟨Or.inl (mem1 58 rfl), Or.inl rfl⟩, ⟨Or.inl (mem1 60 rfl), Or.inl rfl⟩, ⟨Or.inl (mem1 62 rfl), Or.inl rfl⟩, ⟨Or.inl (mem1 64 rfl), Or.inl rfl⟩, ⟨Or.inl (mem1 66 rfl), Or.inl rfl⟩, trivial⟩
theorem kA : All (aOk K.1) K.2.2 := ⟨⟨Or.inl (mem1 11 rfl), Or.inr (Or.inl rfl), by decide⟩, ⟨Or.inl (mem1 14 rfl), Or.inl rfl, by decide⟩, ⟨Or.inl (mem1 16 rfl), Or.inl rfl, by decide⟩, ⟨Or.inl (mem1 18 rfl), Or.inl rfl, by decide⟩, ⟨Or.inl (mem1 20 rfl), Or.inl rfl, by decide⟩, ⟨Or.inl (mem1 22 rfl), Or.inl rfl, by decide⟩, ⟨Or.inl (mem1 24 rfl), Or.inl rfl, by decide⟩, ⟨Or.inl (mem1 26 rfl), Or.inl rfl, by decide⟩, ⟨Or.inl (mem1 28 rfl), Or.inr (Or.inl rfl), by decide⟩, ⟨Or.inl (mem1 30 rfl), Or.inl rfl, by decide⟩, ⟨Or.inl (mem1 32 rfl), Or.inl rfl, by decide⟩, ⟨Or.inl (mem1 34 rfl), Or.inl rfl, by decide⟩, ⟨Or.inl (mem1 36 rfl), Or.inl rfl, by decide⟩, ⟨Or.inl (mem1 38 rfl), Or.inr (Or.inl rfl), by decide⟩, ⟨Or.inl (mem1 40 rfl), Or.inr (Or.inl rfl), by decide⟩, ⟨Or.inl (mem1 42 rfl), Or.inl rfl, by decide⟩, ⟨Or.inl (mem1 44 rfl), Or.inr (Or.inl rfl), by decide⟩, ⟨Or.inl (mem1 46 rfl), Or.inl rfl, by decide⟩, trivial⟩
abbrev kN : Nat := 26
theorem kI : Jvm.Cond.instantiable K.1 kN ∈ tables_1 := mem1 1 rfl
theorem kZ : Jvm.Cond.initialized K.1 ∈ tables_1 := mem1 2 rfl
theorem kNm : (K.2.1.map (·.1) ++ K.2.2.map (·.1)).Nodup := by decide +kernel
theorem nm_ss {k k' : Nat} {nd nd' : String × String} (h : K.2.1[k]? = some nd) (h' : K.2.1[k']? = some nd') (ne : k ≠ k') : nd.1 ≠ nd'.1 := fun e => by
  have l := (List.getElem?_eq_some_iff.mp h).1
  have l' := (List.getElem?_eq_some_iff.mp h').1
  refine ne ((List.getElem?_inj (l := K.2.1.map (·.1) ++ K.2.2.map (·.1)) (i := k) (j := k') (by simp; omega) kNm).mp ?_)
  rw [List.getElem?_append_left (by simpa using l), List.getElem?_append_left (by simpa using l'), List.getElem?_map, List.getElem?_map, h, h']
  simp [e]
theorem nm_aa {k k' : Nat} {t t' : String × FieldType × Int32} (h : K.2.2[k]? = some t) (h' : K.2.2[k']? = some t') (ne : k ≠ k') : t.1 ≠ t'.1 := fun e => by
  have l := (List.getElem?_eq_some_iff.mp h).1
  have l' := (List.getElem?_eq_some_iff.mp h').1
  have q := (List.getElem?_inj (l := K.2.1.map (·.1) ++ K.2.2.map (·.1)) (i := K.2.1.length + k) (j := K.2.1.length + k') (by simp; omega) kNm).mp (by
    rw [List.getElem?_append_right (by simp), List.getElem?_append_right (by simp)]
    simp [h, h', e])
  omega
theorem nm_sa {k k' : Nat} {nd : String × String} {t : String × FieldType × Int32} (h : K.2.1[k]? = some nd) (h' : K.2.2[k']? = some t) : nd.1 ≠ t.1 := fun e => by
  have l := (List.getElem?_eq_some_iff.mp h).1
  have l' := (List.getElem?_eq_some_iff.mp h').1
  have q := (List.getElem?_inj (l := K.2.1.map (·.1) ++ K.2.2.map (·.1)) (i := k) (j := K.2.1.length + k') (by simp; omega) kNm).mp (by
    rw [List.getElem?_append_left (by simpa using l), List.getElem?_append_right (by simp)]
    simp [h, h', e])
  omega
abbrev Ctx : Type := Launch × State × Nat × Array Value
def Ok (C : Ctx) : Prop := ∀ d ∈ tables_1, d.before C.2.2.2 C.2.1 = true
def ArrAt (Z : State) (h : Heap) (b : Nat) (ty : FieldType) (len : Int32) (v : Int32 → Value) : Prop := ∃ cl : Cell, Arr Z h b cl ty ∧ cl.slots.size = len.toNatClampNeg ∧ ∀ j : Int32, ¬ j < 0 → j < len → cl.slots[j.toNatClampNeg]? = some (v j)
def ObjAt (Z : State) (h : Heap) (a : Nat) (q : Nat) (ob : Rec) : Prop :=
  Exa Z h a K.1 ∧ (∀ k nd, K.2.1[k]? = some nd → Fld Z h a K.1 nd.1 nd.2 (.int (ob.1 k))) ∧
  (∀ k t, K.2.2[k]? = some t → k < q → Fld Z h a K.1 t.1 (aD t.2.1) (.ref (a + 1 + k)) ∧ ArrAt Z h (a + 1 + k) t.2.1 t.2.2 (el t.2.1 ob k)) ∧
  (∀ k t, K.2.2[k]? = some t → q ≤ k → Fld Z h a K.1 t.1 (aD t.2.1) .null)
abbrev AH : Type := Nat × List (Nat × Nat × Rec)
def Rep (Z : State) (n0 : Nat) (h : Heap) (G : AH) : Prop :=
  h.size = G.1 ∧ Old Z n0 h ∧ (∀ x ∈ G.2, n0 ≤ x.1 ∧ x.1 + x.2.1 < G.1 ∧ ObjAt Z h x.1 x.2.1 x.2.2) ∧ G.2.Pairwise (fun x y => x.1 + x.2.1 < y.1 ∨ y.1 + y.2.1 < x.1)
section Facts
variable {Z : State} {h h' : Heap} {a b : Nat} {q k n0 top : Nat} {ob ob' : Rec} {nd : String × String} {t : String × FieldType × Int32} {a0 : Array Value} {sl : Nat} {v : Value} {H : List (Nat × Nat × Rec)} {G : AH}
theorem fld_fr {C n d : String} (e : h'[a]? = h[a]?) (F : Fld Z h a C n d v) : Fld Z h' a C n d v := by
  obtain ⟨cell, cf, k, i, f, h1, r⟩ := F; exact ⟨cell, cf, k, i, f, e.trans h1, r⟩
theorem exa_fr {C : String} (e : h'[a]? = h[a]?) (F : Exa Z h a C) : Exa Z h' a C := by
  obtain ⟨cell, k, h1, r⟩ := F; exact ⟨cell, k, e.trans h1, r⟩
theorem arrAt_fr {ty : FieldType} {len : Int32} {w : Int32 → Value} (e : h'[a]? = h[a]?) (F : ArrAt Z h a ty len w) : ArrAt Z h' a ty len w := by
  obtain ⟨cl, A, r⟩ := F; exact ⟨cl, ⟨e.trans A.1, A.2⟩, r⟩
theorem ObjAt.frame (e : ∀ b, a ≤ b → b ≤ a + q → h'[b]? = h[b]?) (F : ObjAt Z h a q ob) : ObjAt Z h' a q ob := by
  have e0 := e a (Nat.le_refl _) (Nat.le_add_right _ _)
  refine ⟨exa_fr e0 F.1, fun k nd hk => fld_fr e0 (F.2.1 k nd hk), fun k t hk hq => ⟨fld_fr e0 (F.2.2.1 k t hk hq).1, arrAt_fr (e _ (by omega) (by omega)) (F.2.2.1 k t hk hq).2⟩, fun k t hk hq => fld_fr e0 (F.2.2.2 k t hk hq)⟩
theorem ObjAt.ext (E : Ext h h') (F : ObjAt Z h a q ob) : ObjAt Z h' a q ob := by
  refine ⟨F.1.ext E, fun k nd hk => (F.2.1 k nd hk).ext E, fun k t hk hq => ⟨(F.2.2.1 k t hk hq).1.ext E, ?_⟩, fun k t hk hq => (F.2.2.2 k t hk hq).ext E⟩
  obtain ⟨cl, A, r⟩ := (F.2.2.1 k t hk hq).2; exact ⟨cl, A.ext E, r⟩
theorem wr_ne (W : Wr h h' a sl v) (ne : b ≠ a) : h'[b]? = h[b]? := by
  obtain ⟨cell, -, -, -, rfl⟩ := W; exact Array.getElem?_setIfInBounds_ne (Ne.symm ne)
theorem laidS (hw : ∀ d ∈ tables_1, d.before a0 Z = true) (hk : K.2.1[k]? = some nd) : Laid Z a0 K.1 K.1 nd.1 nd.2 := ((All.mem kS (List.mem_of_getElem? hk)).1).imp (hw _) (hw _)
theorem laidA (hw : ∀ d ∈ tables_1, d.before a0 Z = true) (hk : K.2.2[k]? = some t) : Laid Z a0 K.1 K.1 t.1 (aD t.2.1) := ((All.mem kA (List.mem_of_getElem? hk)).1).imp (hw _) (hw _)
theorem pfS (hk : K.2.1[k]? = some nd) : ∃ ty, parseFieldDescriptor nd.2 = some ty := by
  rcases (All.mem kS (List.mem_of_getElem? hk)).2 with e | e <;> rw [e]
  · exact ⟨.int, by decide⟩
  · exact ⟨.boolean, by decide⟩
theorem pfA (hk : K.2.2[k]? = some t) : parseFieldDescriptor (aD t.2.1) = some (.array t.2.1) := by
  rcases (All.mem kA (List.mem_of_getElem? hk)).2.1 with e | e | e <;> rw [e] <;> decide
theorem ObjAt.putI {x : Int32} (hw : ∀ d ∈ tables_1, d.before a0 Z = true) (F : ObjAt Z h a q ob) (hk : K.2.1[k]? = some nd) (W : Wr h h' a (Jvm.RoadKit.slotOf Z K.1 nd.1 nd.2) (.int x)) : ObjAt Z h' a q (sI ob k x) := by
  obtain ⟨ty, hty⟩ := pfS hk
  refine ⟨F.1.wr W, fun k' nd' hk' => ?_, fun k' t hk' hq => ⟨(F.2.2.1 k' t hk' hq).1.other W (Or.inr (Jvm.RoadKit.slot_ne (laidA hw hk') (laidS hw hk) (Ne.symm (nm_sa hk hk')) (pfA hk') hty)), ?_⟩, fun k' t hk' hq => (F.2.2.2 k' t hk' hq).other W (Or.inr (Jvm.RoadKit.slot_ne (laidA hw hk') (laidS hw hk) (Ne.symm (nm_sa hk hk')) (pfA hk') hty))⟩
  · by_cases e : k' = k
    · subst e; cases hk.symm.trans hk'
      have := (F.2.1 k' nd hk).same W
      simpa [sI] using this
    · obtain ⟨ty', hty'⟩ := pfS hk'
      have := (F.2.1 k' nd' hk').other W (Or.inr (Jvm.RoadKit.slot_ne (laidS hw hk') (laidS hw hk) (nm_ss hk' hk e) hty' hty))
      simpa [sI, e] using this
  · have := arrAt_fr (wr_ne W (by omega)) (F.2.2.1 k' t hk' hq).2
    have e : el t.2.1 (sI ob k x) k' = el t.2.1 ob k' := by funext j; unfold el; split <;> rfl
    rw [e]; exact this
theorem ObjAt.putA (F : ObjAt Z h a q ob) (hk : K.2.2[k]? = some t) (hq : k < q) {x : Value} {j : Int32} (hj : ¬ j < 0 ∧ j < t.2.2) (W : Wr h h' (a + 1 + k) j.toNatClampNeg x)
    (e1 : el t.2.1 ob' k = fun i => if i = j then x else el t.2.1 ob k i) (e2 : ∀ k' t', k' ≠ k → el t' ob' k' = el t' ob k') (e3 : ob'.1 = ob.1) : ObjAt Z h' a q ob' := by
  have u : h'[a]? = h[a]? := wr_ne W (by omega)
  refine ⟨exa_fr u F.1, fun k' nd hk' => by rw [e3]; exact fld_fr u (F.2.1 k' nd hk'), fun k' t' hk' hq' => ⟨fld_fr u (F.2.2.1 k' t' hk' hq').1, ?_⟩, fun k' t' hk' hq' => fld_fr u (F.2.2.2 k' t' hk' hq')⟩
  by_cases e : k' = k
  · subst e; cases hk.symm.trans hk'
    obtain ⟨cl, A, S, V⟩ := (F.2.2.1 k' t hk hq).2
    have inb : ¬ (j < 0 ∨ cl.slots.size ≤ j.toNatClampNeg) := inb_of S hj
    refine ⟨_, A.same W, by rw [sz_set]; exact S, fun i h0 h1 => ?_⟩
    rw [e1]
    by_cases ei : i = j
    · simp only [ei, if_true]; exact get_hit inb rfl
    · simp only [ei, if_false]; rw [get_miss hj.1 h0 ei]; exact V i h0 h1
  · rw [e2 k' _ e]; exact arrAt_fr (wr_ne W (by omega)) (F.2.2.1 k' t' hk' hq').2
theorem el_sA {ty : FieldType} (ht : ty ≠ .long) (j x : Int32) : el ty (sA ob k j x) k = fun i => if i = j then .int x else el ty ob k i := by
  funext i; cases ty <;> first | exact absurd rfl ht | (simp only [el, sA, true_and]; split <;> rfl)
theorem el_sJ (j : Int32) (x : Int64) : el .long (sJ ob k j x) k = fun i => if i = j then .long x else el .long ob k i := by
  funext i; simp only [el, sJ, true_and]; split <;> rfl
theorem el_sA' (j x : Int32) (k' : Nat) (t' : FieldType) (ne : k' ≠ k) : el t' (sA ob k j x) k' = el t' ob k' := by
  funext i; cases t' <;> simp [el, sA, ne]
theorem el_sJ' (j : Int32) (x : Int64) (k' : Nat) (t' : FieldType) (ne : k' ≠ k) : el t' (sJ ob k j x) k' = el t' ob k' := by
  funext i; cases t' <;> simp [el, sJ, ne]
theorem Rep.upd (R : Rep Z n0 h (top, (a, q, ob) :: H)) (hs : h'.size = h.size) (hO : Old Z n0 h') (e : ∀ b, (b < a ∨ a + q < b) → h'[b]? = h[b]?) (F : ObjAt Z h' a q ob') : Rep Z n0 h' (top, (a, q, ob') :: H) := by
  obtain ⟨r1, r2, r3, r4⟩ := R
  refine ⟨hs.trans r1, hO, fun x hx => ?_, ?_⟩
  · rcases List.mem_cons.mp hx with rfl | hx
    · exact ⟨(r3 _ (List.mem_cons_self ..)).1, (r3 _ (List.mem_cons_self ..)).2.1, F⟩
    · obtain ⟨p1, p2, p3⟩ := r3 x (List.mem_cons_of_mem _ hx)
      refine ⟨p1, p2, p3.frame fun b h1 h2 => e b ?_⟩
      have := (List.pairwise_cons.mp r4).1 x hx
      simp only at this
      omega
  · have := List.pairwise_cons.mp r4
    exact List.pairwise_cons.mpr ⟨fun y hy => this.1 y hy, this.2⟩
theorem Rep.objs (R : Rep Z n0 h (top, (a, q, ob) :: H)) : n0 ≤ a ∧ a + q < top ∧ ObjAt Z h a q ob := R.2.2.1 _ (List.mem_cons_self ..)
theorem Rep.putI {x : Int32} (hw : ∀ d ∈ tables_1, d.before a0 Z = true) (R : Rep Z n0 h (top, (a, q, ob) :: H)) (hk : K.2.1[k]? = some nd) (W : Wr h h' a (Jvm.RoadKit.slotOf Z K.1 nd.1 nd.2) (.int x)) : Rep Z n0 h' (top, (a, q, sI ob k x) :: H) :=
  R.upd W.size (R.2.1.wr W R.objs.1) (fun b hb => wr_ne W (by omega)) (R.objs.2.2.putI hw hk W)
theorem Rep.putA {x j : Int32} (R : Rep Z n0 h (top, (a, q, ob) :: H)) (hk : K.2.2[k]? = some t) (hq : k < q) (ht : t.2.1 ≠ .long) (hj : ¬ j < 0 ∧ j < t.2.2) (W : Wr h h' (a + 1 + k) j.toNatClampNeg (.int x)) : Rep Z n0 h' (top, (a, q, sA ob k j x) :: H) :=
  R.upd W.size (R.2.1.wr W (by have := R.objs.1; omega)) (fun b hb => wr_ne W (by omega)) (R.objs.2.2.putA hk hq hj W (el_sA ht j x) (fun k' t' ne => el_sA' j x k' t' ne) rfl)
theorem Rep.putJ {j : Int32} {x : Int64} (R : Rep Z n0 h (top, (a, q, ob) :: H)) (hk : K.2.2[k]? = some t) (hq : k < q) (ht : t.2.1 = .long) (hj : ¬ j < 0 ∧ j < t.2.2) (W : Wr h h' (a + 1 + k) j.toNatClampNeg (.long x)) : Rep Z n0 h' (top, (a, q, sJ ob k j x) :: H) :=
  R.upd W.size (R.2.1.wr W (by have := R.objs.1; omega)) (fun b hb => wr_ne W (by omega)) (R.objs.2.2.putA hk hq hj W (by rw [ht]; exact el_sJ j x) (fun k' t' ne => el_sJ' j x k' t' ne) rfl)
theorem Rep.swap {x y : Nat × Nat × Rec} (R : Rep Z n0 h (top, x :: y :: H)) : Rep Z n0 h (top, y :: x :: H) := by
  obtain ⟨r1, r2, r3, r4⟩ := R
  refine ⟨r1, r2, fun z hz => r3 z ?_, ?_⟩
  · simp only [List.mem_cons] at hz ⊢
    rcases hz with e | e | e
    · exact Or.inr (Or.inl e)
    · exact Or.inl e
    · exact Or.inr (Or.inr e)
  · simp only [List.pairwise_cons, List.mem_cons] at r4 ⊢
    obtain ⟨p1, p2, p3⟩ := r4
    refine ⟨fun z hz => ?_, fun z hz => p1 z (Or.inr hz), p3⟩
    rcases hz with rfl | hz
    · exact (p1 _ (Or.inl rfl)).symm
    · exact p2 z hz
theorem ObjAt.addA (hw : ∀ d ∈ tables_1, d.before a0 Z = true) (F : ObjAt Z h a k ob) (hk : K.2.2[k]? = some t) (A : ArrAt Z h (a + 1 + k) t.2.1 t.2.2 (el t.2.1 ob k)) (W : Wr h h' a (Jvm.RoadKit.slotOf Z K.1 t.1 (aD t.2.1)) (.ref (a + 1 + k))) : ObjAt Z h' a (k + 1) ob := by
  refine ⟨F.1.wr W, fun k' nd hk' => ?_, fun k' t' hk' hq => ?_, fun k' t' hk' hq => ?_⟩
  · obtain ⟨ty', hty'⟩ := pfS hk'
    exact (F.2.1 k' nd hk').other W (Or.inr (Jvm.RoadKit.slot_ne (laidS hw hk') (laidA hw hk) (nm_sa hk' hk) hty' (pfA hk)))
  · by_cases e : k' = k
    · subst e
      have et : t = t' := Option.some.inj (hk.symm.trans hk')
      subst et
      exact ⟨(F.2.2.2 k' t hk (Nat.le_refl _)).same W, arrAt_fr (wr_ne W (by omega)) A⟩
    · obtain ⟨f1, f2⟩ := F.2.2.1 k' t' hk' (by omega)
      exact ⟨f1.other W (Or.inr (Jvm.RoadKit.slot_ne (laidA hw hk') (laidA hw hk) (nm_aa hk' hk e) (pfA hk') (pfA hk))), arrAt_fr (wr_ne W (by omega)) f2⟩
  · exact (F.2.2.2 k' t' hk' (by omega)).other W (Or.inr (Jvm.RoadKit.slot_ne (laidA hw hk') (laidA hw hk) (nm_aa hk' hk (by omega)) (pfA hk') (pfA hk)))
theorem Rep.addA {h1 h2 : Heap} (hw : ∀ d ∈ tables_1, d.before a0 Z = true) (R : Rep Z n0 h (top, (a, k, ob) :: H)) (E : Ext h h1) (s1 : h1.size = top + 1) (htop : top = a + 1 + k) (hk : K.2.2[k]? = some t) (A : ArrAt Z h1 top t.2.1 t.2.2 (el t.2.1 ob k)) (W : Wr h1 h2 a (Jvm.RoadKit.slotOf Z K.1 t.1 (aD t.2.1)) (.ref top)) : Rep Z n0 h2 (top + 1, (a, k + 1, ob) :: H) := by
  obtain ⟨q1, q2, q3⟩ := R.objs
  have hp := List.pairwise_cons.mp R.2.2.2
  have hO : ObjAt Z h2 a (k + 1) ob := by
    subst htop
    exact (q3.ext E).addA hw hk A W
  refine ⟨W.size.trans s1, (R.2.1.ext E).wr W q1, List.forall_mem_cons.mpr ⟨⟨q1, ?_, hO⟩, fun x hx => ?_⟩, List.pairwise_cons.mpr ⟨fun y hy => ?_, hp.2⟩⟩
  · show a + (k + 1) < top + 1; omega
  · obtain ⟨p1, p2, p3⟩ := R.2.2.1 x (List.mem_cons_of_mem _ hx)
    have u1 : a + k < x.1 ∨ x.1 + x.2.1 < a := hp.1 x hx
    have u2 : x.1 + x.2.1 < top := p2
    exact ⟨p1, Nat.lt_succ_of_lt u2, (p3.ext E).frame fun b h1 h2 => wr_ne W (by omega)⟩
  · have u1 : a + k < y.1 ∨ y.1 + y.2.1 < a := hp.1 y hy
    have u2 : y.1 + y.2.1 < top := (R.2.2.1 y (List.mem_cons_of_mem _ hy)).2.1
    show a + (k + 1) < y.1 ∨ y.1 + y.2.1 < a
    omega
theorem arr_new {cA : ClassId} {ty : FieldType} {len : Int32} (A : Arr Z h b (newA cA ty len) ty) (hts : ty = .int ∨ ty = .boolean ∨ ty = .long) (hz : (∀ i, ob.2.1 k i = 0) ∧ (∀ i, ob.2.2 k i = 0)) : ArrAt Z h b ty len (el ty ob k) := by
  refine ⟨_, A, sz_new _ _ _, fun i h0 h1 => ?_⟩
  have hi : ¬ (i < 0 ∨ len.toNatClampNeg ≤ i.toNatClampNeg) := by
    have e0 : (0 : Int32).toInt = 0 := rfl
    simp only [Int32.lt_iff_toInt_lt, Int32.toNatClampNeg] at *
    omega
  rw [get_new hi]
  rcases hts with rfl | rfl | rfl
  · show some (Value.int 0) = some (Value.int (ob.2.1 k i)); rw [hz.1]
  · show some (Value.int 0) = some (Value.int (ob.2.1 k i)); rw [hz.1]
  · show some (Value.long 0) = some (Value.long (ob.2.2 k i)); rw [hz.2]
theorem Rep.start (s : State) : Rep s s.heap.size s.heap (s.heap.size, []) := ⟨rfl, Old.start s, fun x hx => (by cases hx), List.Pairwise.nil⟩
end Facts
/- bodies, decode facts, patterns of local variables -/
abbrev Bdy : Type := MethodName × ByteArray × Nat × Option FieldType × Room
def DAt (M : Bdy) (pc : Nat) (i : Instr) (n q : Nat) : Prop := decode M.2.1 pc = .ok (i, n) ∧ q = pc + n
abbrev Pat : Type := List (Option Slot)
abbrev vi (x : Int32) : Option Slot := some (.val (.int x))
abbrev vl (x : Int64) : Option Slot := some (.val (.long x))
abbrev vr (a : Nat) : Option Slot := some (.val (.ref a))
abbrev v2 : Option Slot := some .second
abbrev vn : Option Slot := none
def pget : Pat → Nat → Option Slot
  | [], _ => none
  | x :: _, 0 => x
  | _ :: l, n + 1 => pget l n
theorem pget_eq : ∀ (P : Pat) (i : Nat), pget P i = (P[i]?).join
  | [], _ => by simp [pget]
  | x :: l, 0 => by simp [pget]
  | x :: l, n + 1 => by simp [pget, pget_eq l n]
def pput : Pat → Nat → Option Slot → Pat
  | [], _, _ => []
  | _ :: l, 0, y => y :: l
  | x :: l, n + 1, y => x :: pput l n y
theorem pget_pput : ∀ (P : Pat) (i j : Nat) (y : Option Slot) (s : Slot), pget (pput P i y) j = some s → (j = i ∧ y = some s) ∨ (j ≠ i ∧ pget P j = some s)
  | [], _, _, _, _, h => by simp [pput, pget] at h
  | x :: l, 0, 0, y, s, h => Or.inl ⟨rfl, h⟩
  | x :: l, 0, j + 1, y, s, h => Or.inr ⟨by omega, h⟩
  | x :: l, i + 1, 0, y, s, h => Or.inr ⟨by omega, h⟩
  | x :: l, i + 1, j + 1, y, s, h => by
    rcases pget_pput l i j y s h with ⟨e, r⟩ | ⟨e, r⟩
    · exact Or.inl ⟨by omega, r⟩
    · exact Or.inr ⟨by omega, r⟩
/-- a two-word value whose first word is at i is forgotten -/
def pk1 (P : Pat) (i : Nat) : Pat := match pget P i with
  | some (.val (.long _)) => pput P i none
  | some (.val (.double _)) => pput P i none
  | _ => P
def pk2 (P : Pat) (i : Nat) : Pat := match pget P i with
  | some .second => pput P i none
  | _ => P
def pkp (P : Pat) : Nat → Pat
  | 0 => P
  | i + 1 => pk1 P i
def ps1 (P : Pat) (i : Nat) (v : Value) : Pat := pput (pk2 (pkp P i) (i + 1)) i (some (.val v))
def ps2 (P : Pat) (i : Nat) (v : Value) : Pat := pput (pput (pk2 (pkp P i) (i + 2)) i (some (.val v))) (i + 1) (some .second)
def WFl (L : Array Slot) : Prop := (∀ i : Nat, L[i]? = some .second → ∃ (j : Nat) (v : Value), i = j + 1 ∧ L[j]? = some (.val v) ∧ v.category = 2) ∧ (∀ (i : Nat) (v : Value), L[i]? = some (.val v) → v.category = 2 → L[i + 1]? = some .second)
def Fits (P : Pat) (L : Array Slot) : Prop := (∀ i s, pget P i = some s → L[i]? = some s) ∧ WFl L
theorem pk1_sub {P : Pat} {i j : Nat} {s : Slot} (h : pget (pk1 P i) j = some s) : pget P j = some s ∧ (j = i → ∀ w : Value, s = .val w → w.category = 1) := by
  unfold pk1 at h
  split at h
  · rcases pget_pput _ _ _ _ _ h with ⟨-, e⟩ | ⟨e, r⟩
    · cases e
    · exact ⟨r, fun q => absurd q e⟩
  · rcases pget_pput _ _ _ _ _ h with ⟨-, e⟩ | ⟨e, r⟩
    · cases e
    · exact ⟨r, fun q => absurd q e⟩
  · rename_i h1 h2
    refine ⟨h, fun q w e => ?_⟩
    subst q e
    cases w <;> first | rfl | exact absurd h (h1 _) | exact absurd h (h2 _)
theorem pk2_sub {P : Pat} {i j : Nat} {s : Slot} (h : pget (pk2 P i) j = some s) : pget P j = some s ∧ (j = i → s ≠ .second) := by
  unfold pk2 at h
  split at h
  · rcases pget_pput _ _ _ _ _ h with ⟨-, e⟩ | ⟨e, r⟩
    · cases e
    · exact ⟨r, fun q => absurd q e⟩
  · rename_i h1
    refine ⟨h, fun q e => ?_⟩
    subst q e; exact h1 h
theorem pkp_sub {P : Pat} {i j : Nat} {s : Slot} (h : pget (pkp P i) j = some s) : pget P j = some s ∧ (j + 1 = i → ∀ w : Value, s = .val w → w.category = 1) := by
  cases i with
  | zero => exact ⟨h, fun q => by omega⟩
  | succ i => obtain ⟨h1, h2⟩ := pk1_sub (show pget (pk1 P i) j = some s from h); exact ⟨h1, fun q => h2 (by omega)⟩
theorem setAt_eq {L : Array Slot} {i : Nat} {x : Slot} (hi : i < L.size) : Jvm.setAt L i x = some (L.setIfInBounds i x) := by simp [Jvm.setAt, hi]
theorem sl_second {L : Array Slot} {i : Nat} {v : Value} (ho : L[i]? = some .second) : storeLocals L i v = (Jvm.setAt L (i - 1) .unset).bind fun l => storeSelf l i v := by
  unfold storeLocals; rw [ho]; rfl
theorem sl_unset {L : Array Slot} {i : Nat} {v : Value} (ho : L[i]? = some .unset) : storeLocals L i v = storeSelf L i v := by
  unfold storeLocals; rw [ho]; rfl
theorem sl_val {L : Array Slot} {i : Nat} {v o : Value} (ho : L[i]? = some (.val o)) : storeLocals L i v = if o.category = 2 then (Jvm.setAt L (i + 1) .unset).bind fun l => storeSelf l i v else storeSelf L i v := by
  unfold storeLocals; rw [ho]; rfl
theorem ss_one {L : Array Slot} {i : Nat} {v : Value} (hi : i < L.size) (hv : ¬ v.category = 2) : storeSelf L i v = some (L.setIfInBounds i (.val v)) := by
  unfold storeSelf; rw [setAt_eq hi]; simp [hv]
theorem ss_two {L : Array Slot} {i : Nat} {v : Value} {o : Slot} (hi : i < L.size) (hv : v.category = 2) (ho : L[i + 1]? = some o) : storeSelf L i v = (match o with
    | .val old => if old.category = 2 then (Jvm.setAt (L.setIfInBounds i (.val v)) (i + 2) .unset).bind fun l => Jvm.setAt l (i + 1) .second else Jvm.setAt (L.setIfInBounds i (.val v)) (i + 1) .second
    | _ => Jvm.setAt (L.setIfInBounds i (.val v)) (i + 1) .second) := by
  have e : (L.setIfInBounds i (.val v))[i + 1]? = some o := by rw [Array.getElem?_setIfInBounds_ne (by omega)]; exact ho
  unfold storeSelf; rw [setAt_eq hi]
  show (if v.category = 2 then _ else _) = _
  rw [if_pos hv, e]
  cases o <;> rfl
theorem cat12 (v : Value) : v.category = 1 ∨ v.category = 2 := by cases v <;> first | exact Or.inl rfl | exact Or.inr rfl
/-- a one-word store: what stands elsewhere stays, but for the halves of a two-word value that it breaks -/
theorem store_one {L : Array Slot} {i : Nat} {v : Value} (hW : WFl L) (hi : i < L.size) (hv : v.category = 1) :
    ∃ L', storeLocals L i v = some L' ∧ L'.size = L.size ∧ WFl L' ∧ L'[i]? = some (.val v) ∧ ∀ j, j ≠ i → L'[j]? = L[j]? ∨ (j + 1 = i ∧ L[i]? = some .second) ∨ (j = i + 1 ∧ L[j]? = some .second) := by
  have hv2 : ¬ v.category = 2 := by omega
  cases ho : L[i]? with
  | none => rw [Array.getElem?_eq_none_iff] at ho; omega
  | some o =>
    cases o with
    | unset =>
      refine ⟨L.setIfInBounds i (.val v), ?_, by simp, ?_, by simp [hi], fun j hj => Or.inl (Array.getElem?_setIfInBounds_ne (Ne.symm hj))⟩
      · rw [sl_unset ho, ss_one hi hv2]
      · refine ⟨fun j hj => ?_, fun j w hj hw => ?_⟩
        · by_cases e : j = i
          · subst e; simp [hi] at hj
          · rw [Array.getElem?_setIfInBounds_ne (Ne.symm e)] at hj
            obtain ⟨j', w, e1, e2, e3⟩ := hW.1 j hj
            refine ⟨j', w, e1, ?_, e3⟩
            rw [Array.getElem?_setIfInBounds_ne]; exact e2
            intro q; subst q; rw [ho] at e2; cases e2
        · by_cases e : j = i
          · subst e; simp [hi] at hj; subst hj; omega
          · rw [Array.getElem?_setIfInBounds_ne (Ne.symm e)] at hj
            have := hW.2 j w hj hw
            rw [Array.getElem?_setIfInBounds_ne]; exact this
            intro q; subst q; rw [ho] at this; cases this
    | second =>
      obtain ⟨j0, w0, rfl, f2, f3⟩ := hW.1 i ho
      have hj0 : j0 < L.size := by omega
      refine ⟨(L.setIfInBounds j0 .unset).setIfInBounds (j0 + 1) (.val v), ?_, by simp, ?_, by simp [hi], fun j hj => ?_⟩
      · rw [sl_second ho, show j0 + 1 - 1 = j0 from rfl, setAt_eq hj0]; exact ss_one (by simpa using hi) hv2
      · refine ⟨fun j hj => ?_, fun j w hj hw => ?_⟩
        · by_cases e : j = j0 + 1
          · subst e; simp [hi] at hj
          · rw [Array.getElem?_setIfInBounds_ne (Ne.symm e)] at hj
            by_cases e' : j = j0
            · subst e'; simp [hj0] at hj
            · rw [Array.getElem?_setIfInBounds_ne (Ne.symm e')] at hj
              obtain ⟨j', w, e1, e2, e3⟩ := hW.1 j hj
              refine ⟨j', w, e1, ?_, e3⟩
              rw [Array.getElem?_setIfInBounds_ne, Array.getElem?_setIfInBounds_ne]
              · exact e2
              · intro q; subst q; omega
              · intro q; subst q; rw [ho] at e2; cases e2
        · by_cases e : j = j0 + 1
          · subst e; simp [hi] at hj; subst hj; omega
          · rw [Array.getElem?_setIfInBounds_ne (Ne.symm e)] at hj
            by_cases e' : j = j0
            · subst e'; simp [hj0] at hj
            · rw [Array.getElem?_setIfInBounds_ne (Ne.symm e')] at hj
              have := hW.2 j w hj hw
              rw [Array.getElem?_setIfInBounds_ne, Array.getElem?_setIfInBounds_ne]
              · exact this
              · intro q; subst q; rw [f2] at this; cases this
              · omega
      · by_cases e' : j = j0
        · exact Or.inr (Or.inl ⟨by omega, rfl⟩)
        · left; rw [Array.getElem?_setIfInBounds_ne (Ne.symm hj), Array.getElem?_setIfInBounds_ne (Ne.symm e')]
    | val old =>
      by_cases hc : old.category = 2
      · have f2 := hW.2 i old ho hc
        have hi1 : i + 1 < L.size := (Array.getElem?_eq_some_iff.mp f2).1
        refine ⟨(L.setIfInBounds (i + 1) .unset).setIfInBounds i (.val v), ?_, by simp, ?_, by simp [hi], fun j hj => ?_⟩
        · rw [sl_val ho, if_pos hc, setAt_eq hi1]; exact ss_one (by simpa using hi) hv2
        · refine ⟨fun j hj => ?_, fun j w hj hw => ?_⟩
          · by_cases e : j = i
            · subst e; simp [hi] at hj
            · rw [Array.getElem?_setIfInBounds_ne (Ne.symm e)] at hj
              by_cases e' : j = i + 1
              · subst e'; simp [hi1] at hj
              · rw [Array.getElem?_setIfInBounds_ne (Ne.symm e')] at hj
                obtain ⟨j', w, e1, e2, e3⟩ := hW.1 j hj
                refine ⟨j', w, e1, ?_, e3⟩
                rw [Array.getElem?_setIfInBounds_ne, Array.getElem?_setIfInBounds_ne]
                · exact e2
                · intro q; subst q; rw [f2] at e2; cases e2
                · omega
          · by_cases e : j = i
            · subst e; simp [hi] at hj; subst hj; omega
            · rw [Array.getElem?_setIfInBounds_ne (Ne.symm e)] at hj
              by_cases e' : j = i + 1
              · subst e'; simp [hi1] at hj
              · rw [Array.getElem?_setIfInBounds_ne (Ne.symm e')] at hj
                have := hW.2 j w hj hw
                rw [Array.getElem?_setIfInBounds_ne, Array.getElem?_setIfInBounds_ne]
                · exact this
                · omega
                · intro q; subst q; rw [ho] at this; cases this
        · by_cases e' : j = i + 1
          · subst e'; exact Or.inr (Or.inr ⟨rfl, f2⟩)
          · left; rw [Array.getElem?_setIfInBounds_ne (Ne.symm hj), Array.getElem?_setIfInBounds_ne (Ne.symm e')]
      · refine ⟨L.setIfInBounds i (.val v), ?_, by simp, ?_, by simp [hi], fun j hj => Or.inl (Array.getElem?_setIfInBounds_ne (Ne.symm hj))⟩
        · rw [sl_val ho, if_neg hc, ss_one hi hv2]
        · refine ⟨fun j hj => ?_, fun j w hj hw => ?_⟩
          · by_cases e : j = i
            · subst e; simp [hi] at hj
            · rw [Array.getElem?_setIfInBounds_ne (Ne.symm e)] at hj
              obtain ⟨j', w, e1, e2, e3⟩ := hW.1 j hj
              refine ⟨j', w, e1, ?_, e3⟩
              rw [Array.getElem?_setIfInBounds_ne]; exact e2
              intro q; subst q; rw [ho] at e2; cases e2; omega
          · by_cases e : j = i
            · subst e; simp [hi] at hj; subst hj; omega
            · rw [Array.getElem?_setIfInBounds_ne (Ne.symm e)] at hj
              have := hW.2 j w hj hw
              rw [Array.getElem?_setIfInBounds_ne]; exact this
              intro q; subst q; rw [ho] at this; cases this
theorem Fits.store1 {P : Pat} {L : Array Slot} {i : Nat} {v : Value} (h : Fits P L) (hi : i < L.size) (hv : v.category = 1) :
    ∃ L', storeLocals L i v = some L' ∧ L'.size = L.size ∧ Fits (ps1 P i v) L' := by
  obtain ⟨L', e1, e2, e3, e4, e5⟩ := store_one h.2 hi hv
  refine ⟨L', e1, e2, fun j s hj => ?_, e3⟩
  rcases pget_pput _ _ _ _ _ hj with ⟨rfl, q⟩ | ⟨ne, q⟩
  · rw [e4]; exact q
  · obtain ⟨q1, q2⟩ := pk2_sub q
    obtain ⟨q3, q4⟩ := pkp_sub q1
    have hL := h.1 j s q3
    rcases e5 j ne with r | ⟨r1, r2⟩ | ⟨r1, r2⟩
    · rw [r]; exact hL
    · obtain ⟨j', w, z1, z2, z3⟩ := h.2.1 i r2
      have : j' = j := by omega
      subst this
      rw [hL] at z2; cases z2
      have := q4 r1 w rfl; omega
    · rw [hL] at r2; cases r2
      exact absurd rfl (q2 r1)
theorem st_ph1 {L : Array Slot} {i : Nat} {v : Value} (hW : WFl L) (hi : i + 1 < L.size) :
    ∃ A : Array Slot, storeLocals L i v = storeSelf A i v ∧ A.size = L.size ∧ (∀ j, j ≠ i → j ≠ i + 1 → A[j]? = L[j]? ∨ (j + 1 = i ∧ L[i]? = some .second ∧ A[j]? = some .unset)) ∧ (A[i + 1]? = L[i + 1]? ∨ (A[i + 1]? = some .unset ∧ L[i + 1]? = some .second)) ∧ (L[i]? = some .second → ∀ j, j + 1 = i → A[j]? = some .unset) := by
  have hi0 : i < L.size := by omega
  cases ho : L[i]? with
  | none => rw [Array.getElem?_eq_none_iff] at ho; omega
  | some o =>
    cases o with
    | unset => exact ⟨L, sl_unset ho, rfl, fun j _ _ => Or.inl rfl, Or.inl rfl, fun q => by cases q⟩
    | second =>
      obtain ⟨j0, w0, rfl, f2, f3⟩ := hW.1 i ho
      have hj0 : j0 < L.size := by omega
      refine ⟨L.setIfInBounds j0 .unset, by rw [sl_second ho, show j0 + 1 - 1 = j0 from rfl, setAt_eq hj0]; rfl, by simp, fun j h1 h2 => ?_, Or.inl (Array.getElem?_setIfInBounds_ne (by omega)), fun _ j hj => ?_⟩
      · by_cases e : j = j0
        · subst e; exact Or.inr ⟨rfl, rfl, by simp [hj0]⟩
        · exact Or.inl (Array.getElem?_setIfInBounds_ne (Ne.symm e))
      · have : j = j0 := by omega
        subst this; simp [hj0]
    | val old =>
      by_cases hc : old.category = 2
      · refine ⟨L.setIfInBounds (i + 1) .unset, by rw [sl_val ho, if_pos hc, setAt_eq hi]; rfl, by simp, fun j h1 h2 => Or.inl (Array.getElem?_setIfInBounds_ne (Ne.symm h2)), Or.inr ⟨by simp [hi], hW.2 i old ho hc⟩, fun q => by cases q⟩
      · exact ⟨L, by rw [sl_val ho, if_neg hc], rfl, fun j _ _ => Or.inl rfl, Or.inl rfl, fun q => by cases q⟩
theorem st_ph2 {A : Array Slot} {i : Nat} {v : Value} (hi : i + 1 < A.size) (hv : v.category = 2) (hn : ∀ w : Value, A[i + 1]? = some (.val w) → w.category = 2 → i + 2 < A.size) :
    ∃ L', storeSelf A i v = some L' ∧ L'.size = A.size ∧ L'[i]? = some (.val v) ∧ L'[i + 1]? = some .second ∧ (∀ j, j ≠ i → j ≠ i + 1 → L'[j]? = A[j]? ∨ (j = i + 2 ∧ L'[j]? = some .unset ∧ ∃ w : Value, A[i + 1]? = some (.val w) ∧ w.category = 2)) ∧ ((∃ w : Value, A[i + 1]? = some (.val w) ∧ w.category = 2) → L'[i + 2]? = some .unset) := by
  have hi0 : i < A.size := by omega
  have eB : (A.setIfInBounds i (.val v))[i + 1]? = A[i + 1]? := Array.getElem?_setIfInBounds_ne (by omega)
  have plain : (∀ w : Value, A[i + 1]? = some (.val w) → w.category ≠ 2) → storeSelf A i v = some ((A.setIfInBounds i (.val v)).setIfInBounds (i + 1) .second) := fun hq => by
    cases ho : A[i + 1]? with
    | none => rw [Array.getElem?_eq_none_iff] at ho; omega
    | some o => cases o with
      | unset => rw [ss_two hi0 hv ho]; exact setAt_eq (by simpa using hi)
      | second => rw [ss_two hi0 hv ho]; exact setAt_eq (by simpa using hi)
      | val w => have := hq w ho; rw [ss_two hi0 hv ho]; simp only [if_neg this]; exact setAt_eq (by simpa using hi)
  by_cases hw : ∃ w : Value, A[i + 1]? = some (.val w) ∧ w.category = 2
  · obtain ⟨w, h1, h2⟩ := hw
    have h3 := hn w h1 h2
    refine ⟨((A.setIfInBounds i (.val v)).setIfInBounds (i + 2) .unset).setIfInBounds (i + 1) .second, by rw [ss_two hi0 hv h1]; simp only [if_pos h2]; rw [setAt_eq (by simpa using h3)]; exact setAt_eq (by simpa using hi), by simp, ?_, by simp [hi], fun j a b => ?_, fun _ => ?_⟩
    · rw [Array.getElem?_setIfInBounds_ne (by omega), Array.getElem?_setIfInBounds_ne (by omega)]; simp [hi0]
    · rw [Array.getElem?_setIfInBounds_ne (by omega)]
      by_cases e : j = i + 2
      · subst e; exact Or.inr ⟨rfl, by simp [h3], w, h1, h2⟩
      · left; rw [Array.getElem?_setIfInBounds_ne (by omega), Array.getElem?_setIfInBounds_ne (by omega)]
    · rw [Array.getElem?_setIfInBounds_ne (by omega)]; simp [h3]
  · refine ⟨_, plain fun w h1 h2 => hw ⟨w, h1, h2⟩, by simp, ?_, by simp [hi], fun j a b => Or.inl ?_, fun q => absurd q hw⟩
    · rw [Array.getElem?_setIfInBounds_ne (by omega)]; simp [hi0]
    · rw [Array.getElem?_setIfInBounds_ne (by omega), Array.getElem?_setIfInBounds_ne (by omega)]
theorem store_two {L : Array Slot} {i : Nat} {v : Value} (hW : WFl L) (hi : i + 1 < L.size) (hv : v.category = 2) :
    ∃ L', storeLocals L i v = some L' ∧ L'.size = L.size ∧ WFl L' ∧ L'[i]? = some (.val v) ∧ L'[i + 1]? = some .second ∧ ∀ j, j ≠ i → j ≠ i + 1 → L'[j]? = L[j]? ∨ (j + 1 = i ∧ L[i]? = some .second) ∨ (j = i + 2 ∧ L[j]? = some .second) := by
  obtain ⟨A, a1, a2, a3, a4, a5⟩ := st_ph1 (v := v) hW hi
  have a6 : ∀ w : Value, A[i + 1]? = some (.val w) → w.category = 2 → L[i + 2]? = some .second := fun w h1 h2 => by
    rcases a4 with e | ⟨e, -⟩
    · rw [e] at h1; exact hW.2 _ _ h1 h2
    · rw [e] at h1; cases h1
  obtain ⟨L', b1, b2, b3, b4, b5, b6⟩ := st_ph2 (A := A) (i := i) (v := v) (by omega) hv (fun w h1 h2 => by have := (Array.getElem?_eq_some_iff.mp (a6 w h1 h2)).1; omega)
  have c : ∀ j, j ≠ i → j ≠ i + 1 → L'[j]? = L[j]? ∨ (j + 1 = i ∧ L[i]? = some .second ∧ L'[j]? = some .unset) ∨ (j = i + 2 ∧ L[j]? = some .second ∧ L'[j]? = some .unset) := fun j h1 h2 => by
    rcases b5 j h1 h2 with e | ⟨e1, e2, w, e3, e4⟩
    · rcases a3 j h1 h2 with r | ⟨r1, r2, r3⟩
      · exact Or.inl (e.trans r)
      · exact Or.inr (Or.inl ⟨r1, r2, e.trans r3⟩)
    · subst e1; exact Or.inr (Or.inr ⟨rfl, a6 w e3 e4, e2⟩)
  have cs : L[i]? = some .second → ∀ j, j + 1 = i → L'[j]? = some .unset := fun q j hj => by
    rcases b5 j (by omega) (by omega) with e | ⟨e1, -⟩
    · exact e.trans (a5 q j hj)
    · omega
  have c2 : L[i + 2]? = some .second → L'[i + 2]? = some .unset := fun q => by
    obtain ⟨j', w, z1, z2, z3⟩ := hW.1 _ q
    have : j' = i + 1 := by omega
    subst this
    rcases a4 with e | ⟨-, e⟩
    · exact b6 ⟨w, e.trans z2, z3⟩
    · rw [e] at z2; cases z2
  refine ⟨L', a1.trans b1, b2.trans a2, ⟨fun j hj => ?_, fun j w hj hw => ?_⟩, b3, b4, fun j h1 h2 => ?_⟩
  · by_cases e0 : j = i
    · subst e0; rw [b3] at hj; cases hj
    by_cases e1 : j = i + 1
    · exact ⟨i, v, e1, b3, hv⟩
    rcases c j e0 e1 with r | ⟨-, -, r⟩ | ⟨-, -, r⟩
    · rw [r] at hj
      obtain ⟨j', w, z1, z2, z3⟩ := hW.1 j hj
      refine ⟨j', w, z1, ?_, z3⟩
      have n0 : j' ≠ i := by omega
      by_cases n1 : j' = i + 1
      · have : j = i + 2 := by omega
        subst this
        rw [c2 hj] at r; rw [hj] at r; cases r
      rcases c j' n0 n1 with u | ⟨u, -, -⟩ | ⟨-, u, -⟩
      · exact u.trans z2
      · omega
      · rw [z2] at u; cases u
    · rw [r] at hj; cases hj
    · rw [r] at hj; cases hj
  · by_cases e0 : j = i
    · subst e0; exact b4
    by_cases e1 : j = i + 1
    · subst e1; rw [b4] at hj; cases hj
    rcases c j e0 e1 with r | ⟨-, -, r⟩ | ⟨-, -, r⟩
    · have hj' := hj
      rw [r] at hj
      have z := hW.2 j w hj hw
      by_cases n0 : j + 1 = i
      · subst n0; rw [cs z j rfl] at hj'; cases hj'
      by_cases n1 : j + 1 = i + 1
      · omega
      rcases c (j + 1) n0 n1 with u | ⟨u1, u2, -⟩ | ⟨u, -, -⟩
      · exact u.trans z
      · obtain ⟨j', w', y1, y2, y3⟩ := hW.1 i u2
        have : j' = j + 1 := by omega
        subst this; rw [z] at y2; cases y2
      · omega
    · rw [r] at hj; cases hj
    · rw [r] at hj; cases hj
  · rcases c j h1 h2 with r | ⟨r1, r2, -⟩ | ⟨r1, r2, -⟩
    · exact Or.inl r
    · exact Or.inr (Or.inl ⟨r1, r2⟩)
    · exact Or.inr (Or.inr ⟨r1, r2⟩)
theorem Fits.store2 {P : Pat} {L : Array Slot} {i : Nat} {v : Value} (h : Fits P L) (hi : i + 1 < L.size) (hv : v.category = 2) :
    ∃ L', storeLocals L i v = some L' ∧ L'.size = L.size ∧ Fits (ps2 P i v) L' := by
  obtain ⟨L', e1, e2, e3, e4, e4', e5⟩ := store_two h.2 hi hv
  refine ⟨L', e1, e2, fun j s hj => ?_, e3⟩
  rcases pget_pput _ _ _ _ _ hj with ⟨rfl, q⟩ | ⟨ne, q⟩
  · rw [e4']; exact q
  rcases pget_pput _ _ _ _ _ q with ⟨rfl, q'⟩ | ⟨ne', q'⟩
  · rw [e4]; exact q'
  obtain ⟨q1, q2⟩ := pk2_sub q'
  obtain ⟨q3, q4⟩ := pkp_sub q1
  have hL := h.1 j s q3
  rcases e5 j ne' ne with r | ⟨r1, r2⟩ | ⟨r1, r2⟩
  · rw [r]; exact hL
  · obtain ⟨j', w, z1, z2, z3⟩ := h.2.1 i r2
    have : j' = j := by omega
    subst this
    rw [hL] at z2; cases z2
    have := q4 r1 w rfl; omega
  · rw [hL] at r2; cases r2
    exact absurd rfl (q2 r1)
/- what a body does from a place on -/
def Runs (C : Ctx) (M : Bdy) (k n pc : Nat) (P : Pat) (S : List Value) (G : AH) (Q : Option Value → AH → Prop) : Prop :=
  Ok C → ∀ (p : Program) (e : Env) (s : State) (m : MethodId) (args : Array Value) (below : List Frame) (meth : Method) (c : Code) (T : State) (locs : List Loc) (L : Array Slot),
    p.tables.exec = Jvm.exec → c.code = M.2.1 → c.maxLocals = M.2.2.1 → meth.sig.returnType = M.2.2.2.1 → meth.name = M.1.name → s.vm.findClass M.1.cls = some m.cls → C.2.1.Warmed39 s.vm →
    Fits P L → L.size = M.2.2.1 → Stand p C.1 e M.2.2.2.2 s m args below meth c T locs k n → Rep C.2.1 C.2.2.1 T.heap G → Fr C.2.2.1 locs →
    ∃ (T' : State) (locs' : List Loc) (k' n' : Nat) (r : Option Value) (G' : AH), Stand p C.1 e M.2.2.2.2 s m args below meth c T' locs' k' n' ∧ k' ≤ M.2.2.2.2.cells ∧ n' ≤ M.2.2.2.2.slots ∧ Rep C.2.1 C.2.2.1 T'.heap G' ∧ Fr C.2.2.1 locs' ∧ Q r G' ∧
      (M.2.2.2.1 = none → r = none) ∧
      ∀ fs : List Frame, (∀ (f : JFrame) (acts : List Action), f.method = m → f.locked = none → f.entered = [] → (doReturn e (T'.setTop f) acts r).1 = T'.setFrames fs) → Steps p.tables e below (T.setTop (mkF m pc L S)) (T'.setFrames fs)
section Rules
variable {C : Ctx} {M : Bdy} {k n pc q : Nat} {P P' : Pat} {S S' : List Value} {G : AH} {Q : Option Value → AH → Prop}
/-- a step that leaves the heap alone -/
theorem Runs.pure {i : Instr} {len : Nat} (d : DAt M pc i len q) {pc' : Nat}
    (st : ∀ (p : Program) (e : Env) (s : State) (m : MethodId) (args : Array Value) (below : List Frame) (meth : Method) (c : Code) (T : State) (locs : List Loc) (L : Array Slot), Ok C → p.tables.exec = Jvm.exec → s.vm.findClass M.1.cls = some m.cls → C.2.1.Warmed39 s.vm → decode c.code pc = .ok (i, len) → Fits P L → L.size = M.2.2.1 → Rep C.2.1 C.2.2.1 T.heap G →
      Stand p C.1 e M.2.2.2.2 s m args below meth c T locs k n → ∃ L', Fits P' L' ∧ L'.size = M.2.2.1 ∧ ∀ t, Steps p.tables e below (T.setTop (mkF m pc' L' S')) t → Steps p.tables e below (T.setTop (mkF m pc L S)) t)
    (h : Runs C M k n pc' P' S' G Q) : Runs C M k n pc P S G Q := by
  intro hw p e s m args below meth c T locs L hx hby hml hret hnm hown hZ hP hsz X hR hF
  obtain ⟨L', f1, f2, f3⟩ := st p e s m args below meth c T locs L hw hx hown hZ (hb hby d.1) hP hsz hR X
  obtain ⟨T', locs', k', n', r, G', g1, g2, g3, g4, g5, g6, g7, g8⟩ := h hw p e s m args below meth c T locs L' hx hby hml hret hnm hown hZ f1 f2 X hR hF
  exact ⟨T', locs', k', n', r, G', g1, g2, g3, g4, g5, g6, g7, fun fs hr => f3 _ (g8 fs hr)⟩
/-- a step that keeps the locals and what the heap says -/
theorem Runs.stk {i : Instr} {len : Nat} (d : DAt M pc i len q)
    (st : ∀ (p : Program) (e : Env) (s : State) (m : MethodId) (args : Array Value) (below : List Frame) (meth : Method) (c : Code) (T : State) (locs : List Loc) (L : Array Slot), p.tables.exec = Jvm.exec → decode c.code pc = .ok (i, len) → Fits P L →
      Stand p C.1 e M.2.2.2.2 s m args below meth c T locs k n → ∀ t, Steps p.tables e below (T.setTop (mkF m (pc + len) L S')) t → Steps p.tables e below (T.setTop (mkF m pc L S)) t)
    (h : Runs C M k n q P S' G Q) : Runs C M k n pc P S G Q := by
  have hq := d.2
  subst hq
  exact Runs.pure d (fun p e s m args below meth c T locs L _ hx _ _ hd hP hsz _ X => ⟨L, hP, hsz, st p e s m args below meth c T locs L hx hd hP X⟩) h
theorem Runs.iloadN {j : Fin 4} {v : Int32} (d : DAt M pc (.iload_n j) 1 q) (hl : pget P j.val = vi v) (h : Runs C M k n q P (.int v :: S) G Q) : Runs C M k n pc P S G Q :=
  Runs.stk d (fun p e s m args below meth c T locs L hx hd hP X t r => XS.iloadN (g := mkF m pc L S) X.here hx rfl hd (hP.1 _ _ hl) r) h
theorem Runs.iload {j : Nat} {v : Int32} (d : DAt M pc (.iload j) 2 q) (hl : pget P j = vi v) (h : Runs C M k n q P (.int v :: S) G Q) : Runs C M k n pc P S G Q :=
  Runs.stk d (fun p e s m args below meth c T locs L hx hd hP X t r => XS.iload (g := mkF m pc L S) X.here hx rfl hd (hP.1 _ _ hl) r) h
theorem Runs.lloadN {j : Fin 4} {v : Int64} (d : DAt M pc (.lload_n j) 1 q) (hl : pget P j.val = vl v) (h : Runs C M k n q P (.long v :: S) G Q) : Runs C M k n pc P S G Q :=
  Runs.stk d (fun p e s m args below meth c T locs L hx hd hP X t r => XS.lloadN (g := mkF m pc L S) X.here hx rfl hd (hP.1 _ _ hl) r) h
theorem Runs.lload {j : Nat} {v : Int64} (d : DAt M pc (.lload j) 2 q) (hl : pget P j = vl v) (h : Runs C M k n q P (.long v :: S) G Q) : Runs C M k n pc P S G Q :=
  Runs.stk d (fun p e s m args below meth c T locs L hx hd hP X t r => XS.lload (g := mkF m pc L S) X.here hx rfl hd (hP.1 _ _ hl) r) h
theorem Runs.aloadN {j : Fin 4} {v : Nat} (d : DAt M pc (.aload_n j) 1 q) (hl : pget P j.val = vr v) (h : Runs C M k n q P (.ref v :: S) G Q) : Runs C M k n pc P S G Q :=
  Runs.stk d (fun p e s m args below meth c T locs L hx hd hP X t r => XS.aloadN (g := mkF m pc L S) X.here hx rfl hd (hP.1 _ _ hl) rfl r) h
theorem Runs.aload {j : Nat} {v : Nat} (d : DAt M pc (.aload j) 2 q) (hl : pget P j = vr v) (h : Runs C M k n q P (.ref v :: S) G Q) : Runs C M k n pc P S G Q :=
  Runs.stk d (fun p e s m args below meth c T locs L hx hd hP X t r => XS.aload (g := mkF m pc L S) X.here hx rfl hd (hP.1 _ _ hl) rfl r) h
theorem Runs.iconst {i : Int} {v : Int32} (d : DAt M pc (.iconst i) 1 q) (hv : Int32.ofInt i = v) (h : Runs C M k n q P (.int v :: S) G Q) : Runs C M k n pc P S G Q :=
  Runs.stk d (fun p e s m args below meth c T locs L hx hd hP X t r => XS.iconst (g := mkF m pc L S) X.here hx rfl hd (by rw [hv]; exact r)) h
theorem Runs.bipush {i : Int} {v : Int32} (d : DAt M pc (.bipush i) 2 q) (hv : (Int8.ofInt i).toInt32 = v) (h : Runs C M k n q P (.int v :: S) G Q) : Runs C M k n pc P S G Q :=
  Runs.stk d (fun p e s m args below meth c T locs L hx hd hP X t r => XS.bipush (g := mkF m pc L S) X.here hx rfl hd (by rw [hv]; exact r)) h
theorem Runs.sipush {i : Int} {v : Int32} (d : DAt M pc (.sipush i) 3 q) (hv : (Int16.ofInt i).toInt32 = v) (h : Runs C M k n q P (.int v :: S) G Q) : Runs C M k n pc P S G Q :=
  Runs.stk d (fun p e s m args below meth c T locs L hx hd hP X t r => XS.sipush (g := mkF m pc L S) X.here hx rfl hd (by rw [hv]; exact r)) h
theorem Runs.lconst {i : Fin 2} {v : Int64} (d : DAt M pc (.lconst i) 1 q) (hv : Int64.ofNat i = v) (h : Runs C M k n q P (.long v :: S) G Q) : Runs C M k n pc P S G Q :=
  Runs.stk d (fun p e s m args below meth c T locs L hx hd hP X t r => Jvm.Free.XT.lconstV (g := mkF m pc L S) X.here hx rfl v hd hv r) h
theorem Runs.ldc {i : Nat} {v : Int32} (d : DAt M pc (.ldc i) 2 q) (w : Jvm.Cond.constant M.1.cls i v ∈ tables_1) (h : Runs C M k n q P (.int v :: S) G Q) : Runs C M k n pc P S G Q := by
  have hq := d.2
  subst hq
  exact Runs.pure d (fun p e s m args below meth c T locs L hw hx hown hZ hd hP hsz _ X => ⟨L, hP, hsz, fun t r => X.ldcInt hx hown (mvT hZ (hw _ w)) (g := mkF m pc L S) rfl hd t r⟩) h
theorem Runs.ldc2 {i : Nat} {v : Int64} (d : DAt M pc (.ldc2_w i) 3 q) (w : Jvm.Cond.constantLong M.1.cls i v ∈ tables_1) (h : Runs C M k n q P (.long v :: S) G Q) : Runs C M k n pc P S G Q := by
  have hq := d.2
  subst hq
  exact Runs.pure d (fun p e s m args below meth c T locs L hw hx hown hZ hd hP hsz _ X => ⟨L, hP, hsz, fun t r => X.ldc2Long hx hown (mvT hZ (hw _ w)) (g := mkF m pc L S) rfl hd t r⟩) h
theorem Runs.iadd {x y : Int32} (d : DAt M pc .iadd 1 q) (h : Runs C M k n q P (.int (x + y) :: S) G Q) : Runs C M k n pc P (.int y :: .int x :: S) G Q :=
  Runs.stk d (fun p e s m args below meth c T locs L hx hd hP X t r => XS.iadd (g := mkF m pc L (.int y :: .int x :: S)) X.here hx rfl hd rfl r) h
theorem Runs.isub {x y : Int32} (d : DAt M pc .isub 1 q) (h : Runs C M k n q P (.int (x - y) :: S) G Q) : Runs C M k n pc P (.int y :: .int x :: S) G Q :=
  Runs.stk d (fun p e s m args below meth c T locs L hx hd hP X t r => XS.isub (g := mkF m pc L (.int y :: .int x :: S)) X.here hx rfl hd rfl r) h
theorem Runs.imul {x y : Int32} (d : DAt M pc .imul 1 q) (h : Runs C M k n q P (.int (x * y) :: S) G Q) : Runs C M k n pc P (.int y :: .int x :: S) G Q :=
  Runs.stk d (fun p e s m args below meth c T locs L hx hd hP X t r => XS.imul (g := mkF m pc L (.int y :: .int x :: S)) X.here hx rfl hd rfl r) h
theorem Runs.iand {x y : Int32} (d : DAt M pc .iand 1 q) (h : Runs C M k n q P (.int (x &&& y) :: S) G Q) : Runs C M k n pc P (.int y :: .int x :: S) G Q :=
  Runs.stk d (fun p e s m args below meth c T locs L hx hd hP X t r => XS.iand (g := mkF m pc L (.int y :: .int x :: S)) X.here hx rfl hd rfl r) h
theorem Runs.ior {x y : Int32} (d : DAt M pc .ior 1 q) (h : Runs C M k n q P (.int (x ||| y) :: S) G Q) : Runs C M k n pc P (.int y :: .int x :: S) G Q :=
  Runs.stk d (fun p e s m args below meth c T locs L hx hd hP X t r => XS.ior (g := mkF m pc L (.int y :: .int x :: S)) X.here hx rfl hd rfl r) h
theorem Runs.ixor {x y : Int32} (d : DAt M pc .ixor 1 q) (h : Runs C M k n q P (.int (x ^^^ y) :: S) G Q) : Runs C M k n pc P (.int y :: .int x :: S) G Q :=
  Runs.stk d (fun p e s m args below meth c T locs L hx hd hP X t r => XS.ixor (g := mkF m pc L (.int y :: .int x :: S)) X.here hx rfl hd rfl r) h
theorem Runs.ladd {x y : Int64} (d : DAt M pc .ladd 1 q) (h : Runs C M k n q P (.long (x + y) :: S) G Q) : Runs C M k n pc P (.long y :: .long x :: S) G Q :=
  Runs.stk d (fun p e s m args below meth c T locs L hx hd hP X t r => XS.ladd (g := mkF m pc L (.long y :: .long x :: S)) X.here hx rfl hd rfl r) h
theorem Runs.lsub {x y : Int64} (d : DAt M pc .lsub 1 q) (h : Runs C M k n q P (.long (x - y) :: S) G Q) : Runs C M k n pc P (.long y :: .long x :: S) G Q :=
  Runs.stk d (fun p e s m args below meth c T locs L hx hd hP X t r => XS.lsub (g := mkF m pc L (.long y :: .long x :: S)) X.here hx rfl hd rfl r) h
theorem Runs.lmul {x y : Int64} (d : DAt M pc .lmul 1 q) (h : Runs C M k n q P (.long (x * y) :: S) G Q) : Runs C M k n pc P (.long y :: .long x :: S) G Q :=
  Runs.stk d (fun p e s m args below meth c T locs L hx hd hP X t r => XS.lmul (g := mkF m pc L (.long y :: .long x :: S)) X.here hx rfl hd rfl r) h
theorem Runs.land {x y : Int64} (d : DAt M pc .land 1 q) (h : Runs C M k n q P (.long (x &&& y) :: S) G Q) : Runs C M k n pc P (.long y :: .long x :: S) G Q :=
  Runs.stk d (fun p e s m args below meth c T locs L hx hd hP X t r => XS.land (g := mkF m pc L (.long y :: .long x :: S)) X.here hx rfl hd rfl r) h
theorem Runs.lor {x y : Int64} (d : DAt M pc .lor 1 q) (h : Runs C M k n q P (.long (x ||| y) :: S) G Q) : Runs C M k n pc P (.long y :: .long x :: S) G Q :=
  Runs.stk d (fun p e s m args below meth c T locs L hx hd hP X t r => XS.lor (g := mkF m pc L (.long y :: .long x :: S)) X.here hx rfl hd rfl r) h
theorem Runs.lxor {x y : Int64} (d : DAt M pc .lxor 1 q) (h : Runs C M k n q P (.long (x ^^^ y) :: S) G Q) : Runs C M k n pc P (.long y :: .long x :: S) G Q :=
  Runs.stk d (fun p e s m args below meth c T locs L hx hd hP X t r => XS.lxor (g := mkF m pc L (.long y :: .long x :: S)) X.here hx rfl hd rfl r) h
theorem Runs.ishl {x : Int32} {y : Int32} (d : DAt M pc .ishl 1 q) (h : Runs C M k n q P (.int (x <<< (y &&& 31)) :: S) G Q) : Runs C M k n pc P (.int y :: .int x :: S) G Q :=
  Runs.stk d (fun p e s m args below meth c T locs L hx hd hP X t r => XS.ishl (g := mkF m pc L (.int y :: .int x :: S)) X.here hx rfl hd rfl r) h
theorem Runs.ishr {x : Int32} {y : Int32} (d : DAt M pc .ishr 1 q) (h : Runs C M k n q P (.int (x >>> (y &&& 31)) :: S) G Q) : Runs C M k n pc P (.int y :: .int x :: S) G Q :=
  Runs.stk d (fun p e s m args below meth c T locs L hx hd hP X t r => XS.ishr (g := mkF m pc L (.int y :: .int x :: S)) X.here hx rfl hd rfl r) h
theorem Runs.iushr {x : Int32} {y : Int32} (d : DAt M pc .iushr 1 q) (h : Runs C M k n q P (.int ((x.toUInt32 >>> (y &&& 31).toUInt32).toInt32) :: S) G Q) : Runs C M k n pc P (.int y :: .int x :: S) G Q :=
  Runs.stk d (fun p e s m args below meth c T locs L hx hd hP X t r => XS.iushr (g := mkF m pc L (.int y :: .int x :: S)) X.here hx rfl hd rfl r) h
theorem Runs.lshl {x : Int64} {y : Int32} (d : DAt M pc .lshl 1 q) (h : Runs C M k n q P (.long (x <<< (y &&& 0x3f).toInt64) :: S) G Q) : Runs C M k n pc P (.int y :: .long x :: S) G Q :=
  Runs.stk d (fun p e s m args below meth c T locs L hx hd hP X t r => XS.lshl (g := mkF m pc L (.int y :: .long x :: S)) X.here hx rfl hd rfl r) h
theorem Runs.lshr {x : Int64} {y : Int32} (d : DAt M pc .lshr 1 q) (h : Runs C M k n q P (.long (x >>> (y &&& 0x3f).toInt64) :: S) G Q) : Runs C M k n pc P (.int y :: .long x :: S) G Q :=
  Runs.stk d (fun p e s m args below meth c T locs L hx hd hP X t r => XS.lshr (g := mkF m pc L (.int y :: .long x :: S)) X.here hx rfl hd rfl r) h
theorem Runs.lushr {x : Int64} {y : Int32} (d : DAt M pc .lushr 1 q) (h : Runs C M k n q P (.long ((x.toUInt64 >>> (y &&& 0x3f).toInt64.toUInt64).toInt64) :: S) G Q) : Runs C M k n pc P (.int y :: .long x :: S) G Q :=
  Runs.stk d (fun p e s m args below meth c T locs L hx hd hP X t r => XS.lushr (g := mkF m pc L (.int y :: .long x :: S)) X.here hx rfl hd rfl r) h
theorem Runs.ineg {x : Int32} (d : DAt M pc .ineg 1 q) (h : Runs C M k n q P (.int (-x) :: S) G Q) : Runs C M k n pc P (.int x :: S) G Q :=
  Runs.stk d (fun p e s m args below meth c T locs L hx hd hP X t r => XS.ineg (g := mkF m pc L (.int x :: S)) X.here hx rfl hd rfl r) h
theorem Runs.lneg {x : Int64} (d : DAt M pc .lneg 1 q) (h : Runs C M k n q P (.long (-x) :: S) G Q) : Runs C M k n pc P (.long x :: S) G Q :=
  Runs.stk d (fun p e s m args below meth c T locs L hx hd hP X t r => XS.lneg (g := mkF m pc L (.long x :: S)) X.here hx rfl hd rfl r) h
theorem Runs.i2l {x : Int32} (d : DAt M pc .i2l 1 q) (h : Runs C M k n q P (.long x.toInt64 :: S) G Q) : Runs C M k n pc P (.int x :: S) G Q :=
  Runs.stk d (fun p e s m args below meth c T locs L hx hd hP X t r => XS.i2l (g := mkF m pc L (.int x :: S)) X.here hx rfl hd rfl r) h
theorem Runs.l2i {x : Int64} (d : DAt M pc .l2i 1 q) (h : Runs C M k n q P (.int x.toInt32 :: S) G Q) : Runs C M k n pc P (.long x :: S) G Q :=
  Runs.stk d (fun p e s m args below meth c T locs L hx hd hP X t r => XS.l2i (g := mkF m pc L (.long x :: S)) X.here hx rfl hd rfl r) h
theorem Runs.lcmp {x y : Int64} (d : DAt M pc .lcmp 1 q) (h : Runs C M k n q P (.int (lcmpW x y) :: S) G Q) : Runs C M k n pc P (.long y :: .long x :: S) G Q :=
  Runs.stk d (fun p e s m args below meth c T locs L hx hd hP X t r => XS.lcmp (g := mkF m pc L (.long y :: .long x :: S)) X.here hx rfl hd rfl r) h
theorem Runs.idiv {x y : Int32} (d : DAt M pc .idiv 1 q) (hy : y ≠ 0) (h : Runs C M k n q P (.int (x / y) :: S) G Q) : Runs C M k n pc P (.int y :: .int x :: S) G Q :=
  Runs.stk d (fun p e s m args below meth c T locs L hx hd hP X t r => XS.idiv (g := mkF m pc L (.int y :: .int x :: S)) X.here hx rfl hd rfl hy r) h
theorem Runs.irem {x y : Int32} (d : DAt M pc .irem 1 q) (hy : y ≠ 0) (h : Runs C M k n q P (.int (x % y) :: S) G Q) : Runs C M k n pc P (.int y :: .int x :: S) G Q :=
  Runs.stk d (fun p e s m args below meth c T locs L hx hd hP X t r => iremM (g := mkF m pc L (.int y :: .int x :: S)) X hx rfl hd rfl hy r) h
theorem Runs.dup {x : Value} (d : DAt M pc .dup 1 q) (hc : x.category = 1) (h : Runs C M k n q P (x :: x :: S) G Q) : Runs C M k n pc P (x :: S) G Q :=
  Runs.stk d (fun p e s m args below meth c T locs L hx hd hP X t r => XS.dup (g := mkF m pc L (x :: S)) X.here hx rfl hd rfl hc r) h
theorem Runs.dup2 {x y : Value} (d : DAt M pc .dup2 1 q) (hc : x.category = 1) (hc' : y.category = 1) (h : Runs C M k n q P (x :: y :: x :: y :: S) G Q) : Runs C M k n pc P (x :: y :: S) G Q :=
  Runs.stk d (fun p e s m args below meth c T locs L hx hd hP X t r => Jvm.Free.XT.dup2 (g := mkF m pc L (x :: y :: S)) X.here hx rfl hd rfl hc hc' r) h
theorem Runs.pop {x : Value} (d : DAt M pc .pop 1 q) (hc : x.category = 1) (h : Runs C M k n q P S G Q) : Runs C M k n pc P (x :: S) G Q :=
  Runs.stk d (fun p e s m args below meth c T locs L hx hd hP X t r => XS.pop (g := mkF m pc L (x :: S)) X.here hx rfl hd rfl hc r) h
theorem Runs.goto {o : Int} {pc' : Nat} (d : DAt M pc (.goto o) 3 q) (ho : 0 ≤ (pc : Int) + o ∧ ((pc : Int) + o).toNat = pc') (h : Runs C M k n pc' P S G Q) : Runs C M k n pc P S G Q :=
  Runs.pure d (fun p e s m args below meth c T locs L hw hx hown hZ hd hP hsz _ X => ⟨L, hP, hsz, fun t r => XS.goto (g := mkF m pc L S) X.here hx rfl (pc0 := pc) rfl hd ho.1 ho.2 r⟩) h
theorem Runs.ifY {cd : ClassFile.Cond} {x : Int32} {o : Int} {pc' : Nat} (d : DAt M pc (.ifCond cd o) 3 q) (hc : if_icmp.holds cd x 0 = true) (ho : 0 ≤ (pc : Int) + o ∧ ((pc : Int) + o).toNat = pc') (h : Runs C M k n pc' P S G Q) : Runs C M k n pc P (.int x :: S) G Q :=
  Runs.pure d (fun p e s m args below meth c T locs L hw hx hown hZ hd hP hsz _ X => ⟨L, hP, hsz, fun t r => XS.ifYes (g := mkF m pc L (.int x :: S)) X.here hx rfl (pc0 := pc) rfl hd rfl ((if0 _ _).trans hc) ho.1 ho.2 r⟩) h
theorem Runs.ifN {cd : ClassFile.Cond} {x : Int32} {o : Int} (d : DAt M pc (.ifCond cd o) 3 q) (hc : if_icmp.holds cd x 0 = false) (h : Runs C M k n q P S G Q) : Runs C M k n pc P (.int x :: S) G Q :=
  Runs.stk d (fun p e s m args below meth c T locs L hx hd hP X t r => XS.ifNo (g := mkF m pc L (.int x :: S)) X.here hx rfl hd rfl ((if0 _ _).trans hc) r) h
theorem Runs.icY {cd : ClassFile.Cond} {x y : Int32} {o : Int} {pc' : Nat} (d : DAt M pc (.if_icmp cd o) 3 q) (hc : if_icmp.holds cd x y = true) (ho : 0 ≤ (pc : Int) + o ∧ ((pc : Int) + o).toNat = pc') (h : Runs C M k n pc' P S G Q) : Runs C M k n pc P (.int y :: .int x :: S) G Q :=
  Runs.pure d (fun p e s m args below meth c T locs L hw hx hown hZ hd hP hsz _ X => ⟨L, hP, hsz, fun t r => XS.icmpYes (g := mkF m pc L (.int y :: .int x :: S)) X.here hx rfl (pc0 := pc) rfl hd rfl hc ho.1 ho.2 r⟩) h
theorem Runs.icN {cd : ClassFile.Cond} {x y : Int32} {o : Int} (d : DAt M pc (.if_icmp cd o) 3 q) (hc : if_icmp.holds cd x y = false) (h : Runs C M k n q P S G Q) : Runs C M k n pc P (.int y :: .int x :: S) G Q :=
  Runs.stk d (fun p e s m args below meth c T locs L hx hd hP X t r => XS.icmpNo (g := mkF m pc L (.int y :: .int x :: S)) X.here hx rfl hd rfl hc r) h
theorem Runs.tswI {dflt low high : Int} {offs : Array Int} {len : Nat} {o : Int} {pc' : Nat} {i : Int32} (d : DAt M pc (.tableswitch dflt low high offs) len q) (hin : ¬ (i.toInt < low ∨ i.toInt > high)) (hoff : offs[(i.toInt - low).toNat]? = some o) (ho : 0 ≤ (pc : Int) + o ∧ ((pc : Int) + o).toNat = pc') (h : Runs C M k n pc' P S G Q) : Runs C M k n pc P (.int i :: S) G Q :=
  Runs.pure d (fun p e s m args below meth c T locs L hw hx hown hZ hd hP hsz _ X => ⟨L, hP, hsz, fun t r => XS.tswIn (g := mkF m pc L (.int i :: S)) X.here hx rfl (pc0 := pc) rfl hd rfl hin hoff ho.1 ho.2 r⟩) h
theorem Runs.tswO {dflt low high : Int} {offs : Array Int} {len : Nat} {pc' : Nat} {i : Int32} (d : DAt M pc (.tableswitch dflt low high offs) len q) (hout : i.toInt < low ∨ i.toInt > high) (ho : 0 ≤ (pc : Int) + dflt ∧ ((pc : Int) + dflt).toNat = pc') (h : Runs C M k n pc' P S G Q) : Runs C M k n pc P (.int i :: S) G Q :=
  Runs.pure d (fun p e s m args below meth c T locs L hw hx hown hZ hd hP hsz _ X => ⟨L, hP, hsz, fun t r => XS.tswOut (g := mkF m pc L (.int i :: S)) X.here hx rfl (pc0 := pc) rfl hd rfl hout ho.1 ho.2 r⟩) h
theorem Runs.istoreN {j : Fin 4} {x : Int32} (d : DAt M pc (.istore_n j) 1 q) (hi : j.val < M.2.2.1) (hP' : ps1 P j.val (.int x) = P') (h : Runs C M k n q P' S G Q) : Runs C M k n pc P (.int x :: S) G Q := by
  have hq := d.2
  subst hq hP'
  refine Runs.pure d (fun p e s m args below meth c T locs L hw hx hown hZ hd hP hsz _ X => ?_) h
  obtain ⟨L', e1, e2, e3⟩ := hP.store1 (i := j.val) (v := .int x) (by omega) rfl
  exact ⟨L', e3, e2.trans hsz, fun t r => XS.istoreN (g := mkF m pc L (.int x :: S)) X.here hx rfl hd rfl e1 r⟩
theorem Runs.istore {j : Nat} {x : Int32} (d : DAt M pc (.istore j) 2 q) (hi : j < M.2.2.1) (hP' : ps1 P j (.int x) = P') (h : Runs C M k n q P' S G Q) : Runs C M k n pc P (.int x :: S) G Q := by
  have hq := d.2
  subst hq hP'
  refine Runs.pure d (fun p e s m args below meth c T locs L hw hx hown hZ hd hP hsz _ X => ?_) h
  obtain ⟨L', e1, e2, e3⟩ := hP.store1 (i := j) (v := .int x) (by omega) rfl
  exact ⟨L', e3, e2.trans hsz, fun t r => XS.istore (g := mkF m pc L (.int x :: S)) X.here hx rfl hd rfl e1 r⟩
theorem Runs.astoreN {j : Fin 4} {x : Nat} (d : DAt M pc (.astore_n j) 1 q) (hi : j.val < M.2.2.1) (hP' : ps1 P j.val (.ref x) = P') (h : Runs C M k n q P' S G Q) : Runs C M k n pc P (.ref x :: S) G Q := by
  have hq := d.2
  subst hq hP'
  refine Runs.pure d (fun p e s m args below meth c T locs L hw hx hown hZ hd hP hsz _ X => ?_) h
  obtain ⟨L', e1, e2, e3⟩ := hP.store1 (i := j.val) (v := .ref x) (by omega) rfl
  exact ⟨L', e3, e2.trans hsz, fun t r => XS.astoreN (g := mkF m pc L (.ref x :: S)) X.here hx rfl hd rfl rfl e1 r⟩
theorem Runs.astore {j : Nat} {x : Nat} (d : DAt M pc (.astore j) 2 q) (hi : j < M.2.2.1) (hP' : ps1 P j (.ref x) = P') (h : Runs C M k n q P' S G Q) : Runs C M k n pc P (.ref x :: S) G Q := by
  have hq := d.2
  subst hq hP'
  refine Runs.pure d (fun p e s m args below meth c T locs L hw hx hown hZ hd hP hsz _ X => ?_) h
  obtain ⟨L', e1, e2, e3⟩ := hP.store1 (i := j) (v := .ref x) (by omega) rfl
  exact ⟨L', e3, e2.trans hsz, fun t r => XS.astore (g := mkF m pc L (.ref x :: S)) X.here hx rfl hd rfl rfl e1 r⟩
theorem Runs.lstoreN {j : Fin 4} {x : Int64} (d : DAt M pc (.lstore_n j) 1 q) (hi : j.val + 1 < M.2.2.1) (hP' : ps2 P j.val (.long x) = P') (h : Runs C M k n q P' S G Q) : Runs C M k n pc P (.long x :: S) G Q := by
  have hq := d.2
  subst hq hP'
  refine Runs.pure d (fun p e s m args below meth c T locs L hw hx hown hZ hd hP hsz _ X => ?_) h
  obtain ⟨L', e1, e2, e3⟩ := hP.store2 (i := j.val) (v := .long x) (by omega) rfl
  exact ⟨L', e3, e2.trans hsz, fun t r => XS.lstoreN (g := mkF m pc L (.long x :: S)) X.here hx rfl hd rfl e1 r⟩
theorem Runs.lstore {j : Nat} {x : Int64} (d : DAt M pc (.lstore j) 2 q) (hi : j + 1 < M.2.2.1) (hP' : ps2 P j (.long x) = P') (h : Runs C M k n q P' S G Q) : Runs C M k n pc P (.long x :: S) G Q := by
  have hq := d.2
  subst hq hP'
  refine Runs.pure d (fun p e s m args below meth c T locs L hw hx hown hZ hd hP hsz _ X => ?_) h
  obtain ⟨L', e1, e2, e3⟩ := hP.store2 (i := j) (v := .long x) (by omega) rfl
  exact ⟨L', e3, e2.trans hsz, fun t r => XS.lstore (g := mkF m pc L (.long x :: S)) X.here hx rfl hd rfl e1 r⟩
theorem Runs.iinc {j : Nat} {cst : Int} {x v : Int32} (d : DAt M pc (.iinc j cst) 3 q) (hv : Int32.ofInt cst = v) (hl : pget P j = vi x) (hi : j < M.2.2.1) (hP' : ps1 P j (.int (x + v)) = P') (h : Runs C M k n q P' S G Q) : Runs C M k n pc P S G Q := by
  have hq := d.2
  subst hq hP' hv
  refine Runs.pure d (fun p e s m args below meth c T locs L hw hx hown hZ hd hP hsz _ X => ?_) h
  obtain ⟨L', e1, e2, e3⟩ := hP.store1 (i := j) (v := .int (x + Int32.ofInt cst)) (by omega) rfl
  exact ⟨L', e3, e2.trans hsz, fun t r => XS.iinc (g := mkF m pc L S) X.here hx rfl hd (hP.1 _ _ hl) e1 r⟩
/-- less is known of the locals -/
def psub : Pat → Pat → Prop
  | [], _ => True
  | none :: l, _ :: l' => psub l l'
  | some s :: l, y :: l' => y = some s ∧ psub l l'
  | none :: l, [] => psub l []
  | some _ :: _, [] => False
theorem psub_get : ∀ (P P' : Pat), psub P P' → ∀ i s, pget P i = some s → pget P' i = some s
  | [], _, _, i, s, h => by simp [pget] at h
  | none :: l, _ :: l', H, 0, s, h => by simp [pget] at h
  | none :: l, _ :: l', H, i + 1, s, h => psub_get l l' H i s h
  | some x :: l, y :: l', H, 0, s, h => by rw [show y = some x from H.1]; exact h
  | some x :: l, y :: l', H, i + 1, s, h => psub_get l l' H.2 i s h
  | none :: l, [], H, 0, s, h => by simp [pget] at h
  | none :: l, [], H, i + 1, s, h => by have := psub_get l [] H i s h; simp [pget] at this
  | some _ :: _, [], H, _, _, _ => H.elim
theorem Runs.weak (hP : psub P' P) (h : Runs C M k n pc P' S G Q) : Runs C M k n pc P S G Q := by
  intro hw p e s m args below meth c T locs L hx hby hml hret hnm hown hZ hf
  exact h hw p e s m args below meth c T locs L hx hby hml hret hnm hown hZ ⟨fun i s hi => hf.1 i s (psub_get _ _ hP i s hi), hf.2⟩
theorem Runs.swap {top : Nat} {x y : Nat × Nat × Rec} {H : List (Nat × Nat × Rec)} (h : Runs C M k n pc P S (top, y :: x :: H) Q) : Runs C M k n pc P S (top, x :: y :: H) Q := by
  intro hw p e s m args below meth c T locs L hx hby hml hret hnm hown hZ hf hsz X hR hF
  exact h hw p e s m args below meth c T locs L hx hby hml hret hnm hown hZ hf hsz X hR.swap hF
end Rules
/- the steps that touch the heap -/
section Made
variable {p : Program} {l : Launch} {e : Env} {R : Room} {s : State} {m : MethodId} {args : Array Value} {below : List Frame} {meth : Method} {c : Code} {T : State} {locs : List Loc} {cells slots : Nat} {Z : State} {a0 : Array Value}
theorem ext_push (h : Heap) (x : Cell) : Ext h (h.push x) := ⟨by simp, fun a c q => by rw [Array.getElem?_push_lt (Array.getElem?_eq_some_iff.mp q).1]; exact (Array.getElem?_eq_getElem _).symm.trans q⟩
/-- 'new', with the heap's size behind it -/
theorem new1 (X : Stand p l e R s m args below meth c T locs cells slots) (hx : p.tables.exec = Jvm.exec) (hZ : Z.Warmed39 s.vm) {own C : String} {index n : Nat} (hown : s.vm.findClass own = some m.cls) (w : (Jvm.Cond.classLink own index C).before a0 Z = true) (wi : (Jvm.Cond.instantiable C n).before a0 Z = true) (wz : (Jvm.Cond.initialized C).before a0 Z = true)
    {g : JFrame} (hg : g.method = m) (hd : decode c.code g.pc = .ok (.new index, 3)) (hc : cells + 1 ≤ R.cells) (hl : slots + n ≤ R.slots) :
    ∃ T', Stand p l e R s m args below meth c T' locs (cells + 1) (slots + n) ∧ T'.heap.size = T.heap.size + 1 ∧ Ext T.heap T'.heap ∧ Exa Z T'.heap T.heap.size C ∧ (∀ {O nm d : String} {ty : FieldType}, Laid Z a0 C O nm d → parseFieldDescriptor d = some ty → Fld Z T'.heap T.heap.size O nm d (defaultValue ty)) ∧
      ∀ target, Steps p.tables e below (T'.setTop { g with pc := g.pc + 3, stack := .ref T.heap.size :: g.stack }) target → Steps p.tables e below (T.setTop g) target := by
  obtain ⟨vm', cC, kC, h1, h2, h3, h4, X', st⟩ := X.newCold hx hown (mv hZ w) (mv hZ wi) (mv hZ wz) hg hd hc hl
  rw [hZ.alike.findClass] at h1
  obtain ⟨kZ, z1, -⟩ := Vm.findClass_spec h1
  obtain ⟨k', z2, z3⟩ := hZ.alike.2.2 _ _ z1
  have ek : kC.instanceTypes = kZ.instanceTypes := by rw [Option.some.inj (h2.symm.trans z2), z3]
  obtain ⟨cell, hcell⟩ : ∃ cell : Cell, cell = { cls := cC, slots := kC.instanceTypes.map defaultValue, vm := .none } := ⟨_, rfl⟩
  rw [← hcell] at X' st
  have hp : ((T.setVm vm').pushCell cell).heap = T.heap.push cell := rfl
  have at' : (T.heap.push cell)[T.heap.size]? = some cell := by simp
  refine ⟨_, X', by rw [hp]; simp, by rw [hp]; exact ext_push _ _, ?_, fun {O nm d ty} L ht => ?_, st⟩
  · rw [hp]; exact ⟨cell, kZ, at', by rw [hcell]; exact h1, by rw [hcell]; exact z1, by rw [hcell]; rfl, fun _ => by rw [hcell]; simp [ek]⟩
  · rw [hp]
    obtain ⟨c1, k1, cf, kf, i, f, a1, a2, a3, a4, a5, a6, -⟩ := L.spec
    cases h1.symm.trans a1
    cases z1.symm.trans a2
    refine ⟨cell, cf, kf, i, f, at', a3, a4, by rw [hcell]; simp, by rw [hcell]; rfl, by rw [hcell]; exact a5, ?_⟩
    rw [hcell]; simp [ek, a6, (State.fieldFound?_type a3 ht).2]
theorem newArr1 (X : Stand p l e R s m args below meth c T locs cells slots) (hx : p.tables.exec = Jvm.exec) (hZ : Z.Warmed39 s.vm) {aty : ArrayType} (w : (Jvm.Cond.arrayClass (newarray.typeOf aty)).before a0 Z = true) {g : JFrame} (hg : g.method = m) (hd : decode c.code g.pc = .ok (.newarray aty, 2)) {n : Int32} {rest : List Value} (hs : g.stack = .int n :: rest)
    (hn : ¬ n < 0) (hb : n.toNatClampNeg * 8 ≤ 536870912) (hc : cells + 1 ≤ R.cells) (hl : slots + n.toNatClampNeg ≤ R.slots) :
    ∃ T' cA, Stand p l e R s m args below meth c T' locs (cells + 1) (slots + n.toNatClampNeg) ∧ T'.heap.size = T.heap.size + 1 ∧ Ext T.heap T'.heap ∧ Arr Z T'.heap T.heap.size (newA cA (newarray.typeOf aty) n) (newarray.typeOf aty) ∧
      ∀ target, Steps p.tables e below (T'.setTop { g with pc := g.pc + 2, stack := .ref T.heap.size :: rest }) target → Steps p.tables e below (T.setTop g) target := by
  have hcb : componentBytes (newarray.typeOf aty) ≤ 8 := by cases aty <;> decide
  obtain ⟨cA, kA, comp, h1, h2, h3, X', st⟩ := X.newarrayPrim hx (mvA hZ w) hg hd hs hn (Nat.le_trans (Nat.mul_le_mul_left _ hcb) hb) hc hl
  rw [hZ.alike.findClass] at h1
  obtain ⟨kZ, z1, -⟩ := Vm.findClass_spec h1
  obtain ⟨k', z2, z3⟩ := hZ.alike.2.2 _ _ z1
  have ek : kA.kind = kZ.kind := by rw [Option.some.inj (h2.symm.trans z2), z3]
  have hp : (T.pushCell (newA cA (newarray.typeOf aty) n)).heap = T.heap.push (newA cA (newarray.typeOf aty) n) := rfl
  refine ⟨T.pushCell (newA cA (newarray.typeOf aty) n), cA, X', by rw [hp]; simp, by rw [hp]; exact ext_push _ _, ?_, st⟩
  rw [hp]
  exact ⟨by simp, ⟨by simp [newA], kZ, z1, comp, by rw [← ek]; exact h3⟩, by simp [newA]⟩
end Made
section Heap
variable {C : Ctx} {M : Bdy} {k n pc q : Nat} {P P' : Pat} {S S' : List Value} {G : AH} {Q : Option Value → AH → Prop} {top : Nat} {a : Nat} {qq j idx : Nat} {ob : Rec} {H : List (Nat × Nat × Rec)} {nm ds : String}
theorem Runs.getI (d : DAt M pc (.getfield idx) 3 q) (w : Jvm.Cond.fieldLink M.1.cls idx K.1 nm ds ∈ tables_1) (hk : K.2.1[j]? = some (nm, ds)) (h : Runs C M k n q P (.int (gI ob j) :: S) (top, (a, qq, ob) :: H) Q) : Runs C M k n pc P (.ref a :: S) (top, (a, qq, ob) :: H) Q := by
  intro hw p e s m args below meth c T locs L hx hby hml hret hnm hown hZ hf hsz X hR hF
  have hq := d.2
  subst hq
  obtain ⟨T1, X1, e1, st1⟩ := getF X hx hZ hown (host := "") (Or.inl (hw _ w)) Via.refl rfl (hR.objs.2.2.2.1 j _ hk) (g := mkF m pc L (.ref a :: S)) rfl rfl (hb hby d.1)
  obtain ⟨T', locs', k', n', r, G', g1, g2, g3, g4, g5, g6, g7, g8⟩ := h hw p e s m args below meth c T1 locs L hx hby hml hret hnm hown hZ hf hsz X1 (by rw [e1]; exact hR) hF
  exact ⟨T', locs', k', n', r, G', g1, g2, g3, g4, g5, g6, g7, fun fs hr => st1 _ (g8 fs hr)⟩
theorem Runs.getA {ty : FieldType} {len : Int32} (d : DAt M pc (.getfield idx) 3 q) (hk : K.2.2[j]? = some (nm, ty, len)) (w : Jvm.Cond.fieldLink M.1.cls idx K.1 nm (aD ty) ∈ tables_1) (hq : j < qq) (h : Runs C M k n q P (.ref (a + 1 + j) :: S) (top, (a, qq, ob) :: H) Q) : Runs C M k n pc P (.ref a :: S) (top, (a, qq, ob) :: H) Q := by
  intro hw p e s m args below meth c T locs L hx hby hml hret hnm hown hZ hf hsz X hR hF
  have hqq := d.2
  subst hqq
  obtain ⟨T1, X1, e1, st1⟩ := getF X hx hZ hown (host := "") (Or.inl (hw _ w)) Via.refl rfl (hR.objs.2.2.2.2.1 j _ hk hq).1 (g := mkF m pc L (.ref a :: S)) rfl rfl (hb hby d.1)
  obtain ⟨T', locs', k', n', r, G', g1, g2, g3, g4, g5, g6, g7, g8⟩ := h hw p e s m args below meth c T1 locs L hx hby hml hret hnm hown hZ hf hsz X1 (by rw [e1]; exact hR) hF
  exact ⟨T', locs', k', n', r, G', g1, g2, g3, g4, g5, g6, g7, fun fs hr => st1 _ (g8 fs hr)⟩
theorem lw_of {Z : State} {a0 : Array Value} {meth : Method} (hw : ∀ d ∈ tables_1, d.before a0 Z = true) {C O n d own : String} (h : Jvm.Cond.lays C O n d ∈ tables_1 ∨ Jvm.Cond.laysFinal C O n d ∈ tables_1) (hc : Jvm.Cond.lays C O n d ∈ tables_1 ∨ (own = O ∧ meth.name = "<init>")) : (Jvm.Cond.lays C O n d).before a0 Z = true ∨ ((Jvm.Cond.laysFinal C O n d).before a0 Z = true ∧ own = O ∧ meth.name = "<init>") := by
  rcases hc with hc | hc
  · exact Or.inl (hw _ hc)
  · exact h.imp (hw _) (fun u => ⟨hw _ u, hc⟩)
/-- a field that may be written here: not final, or in a constructor of its class -/
def Mine (M : Bdy) (nm ds : String) : Prop := Jvm.Cond.lays K.1 K.1 nm ds ∈ tables_1 ∨ (M.1.cls = K.1 ∧ M.1.name = "<init>")
theorem Runs.putI {x : Int32} (d : DAt M pc (.putfield idx) 3 q) (w : Jvm.Cond.fieldLink M.1.cls idx K.1 nm "I" ∈ tables_1) (hk : K.2.1[j]? = some (nm, "I")) (hm : Mine M nm "I") (h : Runs C M k n q P S (top, (a, qq, sI ob j x) :: H) Q) : Runs C M k n pc P (.int x :: .ref a :: S) (top, (a, qq, ob) :: H) Q := by
  intro hw p e s m args below meth c T locs L hx hby hml hret hnm hown hZ hf hsz X hR hF
  have hqq := d.2
  subst hqq
  obtain ⟨T1, h1, X1, e1, W1, st1⟩ := putF X hx hZ hown (host := "") (Or.inl (hw _ w)) Via.refl rfl (hR.objs.2.2.2.1 j _ hk) hR.objs.2.2.1 (lw_of hw ((All.mem kS (List.mem_of_getElem? hk)).1) (hm.imp id (fun u => ⟨u.1, hnm.trans u.2⟩))) (hw _ kI) (ty := .int) (by decide) rfl rfl (g := mkF m pc L (.int x :: .ref a :: S)) rfl rfl (hb hby d.1)
  obtain ⟨T', locs', k', n', r, G', g1, g2, g3, g4, g5, g6, g7, g8⟩ := h hw p e s m args below meth c T1 _ L hx hby hml hret hnm hown hZ hf hsz X1 (by rw [e1]; exact hR.putI hw hk W1) (Fr.snoc X1 hF hR.objs.1)
  exact ⟨T', locs', k', n', r, G', g1, g2, g3, g4, g5, g6, g7, fun fs hr => st1 _ (g8 fs hr)⟩
theorem Runs.putZ {x y : Int32} (d : DAt M pc (.putfield idx) 3 q) (w : Jvm.Cond.fieldLink M.1.cls idx K.1 nm "Z" ∈ tables_1) (hk : K.2.1[j]? = some (nm, "Z")) (hm : Mine M nm "Z") (hy : nar .boolean x = y) (h : Runs C M k n q P S (top, (a, qq, sI ob j y) :: H) Q) : Runs C M k n pc P (.int x :: .ref a :: S) (top, (a, qq, ob) :: H) Q := by
  subst hy
  intro hw p e s m args below meth c T locs L hx hby hml hret hnm hown hZ hf hsz X hR hF
  have hqq := d.2
  subst hqq
  obtain ⟨T1, h1, X1, e1, W1, st1⟩ := putFN X hx hZ hown (hw _ w) Via.refl rfl (hR.objs.2.2.2.1 j _ hk) hR.objs.2.2.1 (lw_of hw ((All.mem kS (List.mem_of_getElem? hk)).1) (hm.imp id (fun u => ⟨u.1, hnm.trans u.2⟩))) (hw _ kI) (ty := .boolean) (v' := .int (nar .boolean x)) (by decide) rfl (fits_nar_bool _) (g := mkF m pc L (.int x :: .ref a :: S)) rfl rfl (hb hby d.1)
  obtain ⟨T', locs', k', n', r, G', g1, g2, g3, g4, g5, g6, g7, g8⟩ := h hw p e s m args below meth c T1 _ L hx hby hml hret hnm hown hZ hf hsz X1 (by rw [e1]; exact hR.putI hw hk W1) (Fr.snoc X1 hF hR.objs.1)
  exact ⟨T', locs', k', n', r, G', g1, g2, g3, g4, g5, g6, g7, fun fs hr => st1 _ (g8 fs hr)⟩
theorem Runs.ialoadA {i len : Int32} (d : DAt M pc .iaload 1 q) (hk : K.2.2[j]? = some (nm, .int, len)) (hq : j < qq) (hi : ¬ i < 0 ∧ i < len) (h : Runs C M k n q P (.int (gA ob j i) :: S) (top, (a, qq, ob) :: H) Q) : Runs C M k n pc P (.int i :: .ref (a + 1 + j) :: S) (top, (a, qq, ob) :: H) Q := by
  have hqq := d.2
  subst hqq
  refine Runs.pure d (fun p e s m args below meth c T locs L hw hx hown hZ hd hP hsz hR X => ⟨L, hP, hsz, fun t r => ?_⟩) h
  obtain ⟨cl, A, Sz, V⟩ := (hR.objs.2.2.2.2.1 j _ hk hq).2
  exact X.iaload hx (j := i) (v := .int (gA ob j i)) A.1 (State.isArrayOf_alike hZ.alike A.2.1) A.2.2 (inb_of Sz hi) (V i hi.1 hi.2) (g := mkF m pc L (.int i :: .ref (a + 1 + j) :: S)) rfl rfl hd _ r
theorem Runs.baloadA {i len : Int32} (d : DAt M pc .baload 1 q) (hk : K.2.2[j]? = some (nm, .boolean, len)) (hq : j < qq) (hi : ¬ i < 0 ∧ i < len) (h : Runs C M k n q P (.int (gA ob j i) :: S) (top, (a, qq, ob) :: H) Q) : Runs C M k n pc P (.int i :: .ref (a + 1 + j) :: S) (top, (a, qq, ob) :: H) Q := by
  have hqq := d.2
  subst hqq
  refine Runs.pure d (fun p e s m args below meth c T locs L hw hx hown hZ hd hP hsz hR X => ⟨L, hP, hsz, fun t r => ?_⟩) h
  obtain ⟨cl, A, Sz, V⟩ := (hR.objs.2.2.2.2.1 j _ hk hq).2
  exact X.baloadBooleans hx (j := i) (v := .int (gA ob j i)) A.1 (State.isArrayOf_alike hZ.alike A.2.1) A.2.2 (inb_of Sz hi) (V i hi.1 hi.2) (g := mkF m pc L (.int i :: .ref (a + 1 + j) :: S)) rfl rfl hd _ r
theorem Runs.laloadA {i len : Int32} (d : DAt M pc .laload 1 q) (hk : K.2.2[j]? = some (nm, .long, len)) (hq : j < qq) (hi : ¬ i < 0 ∧ i < len) (h : Runs C M k n q P (.long (gJ ob j i) :: S) (top, (a, qq, ob) :: H) Q) : Runs C M k n pc P (.int i :: .ref (a + 1 + j) :: S) (top, (a, qq, ob) :: H) Q := by
  have hqq := d.2
  subst hqq
  refine Runs.pure d (fun p e s m args below meth c T locs L hw hx hown hZ hd hP hsz hR X => ⟨L, hP, hsz, fun t r => ?_⟩) h
  obtain ⟨cl, A, Sz, V⟩ := (hR.objs.2.2.2.2.1 j _ hk hq).2
  exact X.laload hx (j := i) (v := .long (gJ ob j i)) A.1 (State.isArrayOf_alike hZ.alike A.2.1) A.2.2 (inb_of Sz hi) (V i hi.1 hi.2) (g := mkF m pc L (.int i :: .ref (a + 1 + j) :: S)) rfl rfl hd _ r
theorem Runs.iastoreA {i x len : Int32} (d : DAt M pc .iastore 1 q) (hk : K.2.2[j]? = some (nm, .int, len)) (hq : j < qq) (hi : ¬ i < 0 ∧ i < len) (h : Runs C M k n q P S (top, (a, qq, sA ob j i x) :: H) Q) : Runs C M k n pc P (.int x :: .int i :: .ref (a + 1 + j) :: S) (top, (a, qq, ob) :: H) Q := by
  intro hw p e s m args below meth c T locs L hx hby hml hret hnm hown hZ hf hsz X hR hF
  have hqq := d.2
  subst hqq
  obtain ⟨cl, A, Sz, V⟩ := (hR.objs.2.2.2.2.1 j _ hk hq).2
  obtain ⟨T1, h1, X1, e1, W1, st1⟩ := stI X hx hZ rfl A (j := i) (x := x) (inb_of Sz hi) (g := mkF m pc L (.int x :: .int i :: .ref (a + 1 + j) :: S)) rfl rfl (hb hby d.1)
  obtain ⟨T', locs', k', n', r, G', g1, g2, g3, g4, g5, g6, g7, g8⟩ := h hw p e s m args below meth c T1 _ L hx hby hml hret hnm hown hZ hf hsz X1 (by rw [e1]; exact hR.putA hk hq (by simp) hi W1) (Fr.snoc X1 hF (by have := hR.objs.1; omega))
  exact ⟨T', locs', k', n', r, G', g1, g2, g3, g4, g5, g6, g7, fun fs hr => st1 _ (g8 fs hr)⟩
theorem Runs.bastoreA {i x len : Int32} (d : DAt M pc .bastore 1 q) (hk : K.2.2[j]? = some (nm, .boolean, len)) (hq : j < qq) (hi : ¬ i < 0 ∧ i < len) {y : Int32} (hy : nar .boolean x = y) (h : Runs C M k n q P S (top, (a, qq, sA ob j i y) :: H) Q) : Runs C M k n pc P (.int x :: .int i :: .ref (a + 1 + j) :: S) (top, (a, qq, ob) :: H) Q := by
  subst hy
  intro hw p e s m args below meth c T locs L hx hby hml hret hnm hown hZ hf hsz X hR hF
  have hqq := d.2
  subst hqq
  obtain ⟨cl, A, Sz, V⟩ := (hR.objs.2.2.2.2.1 j _ hk hq).2
  obtain ⟨T1, h1, X1, e1, W1, st1⟩ := stZ X hx hZ rfl A (j := i) (x := x) (inb_of Sz hi) (g := mkF m pc L (.int x :: .int i :: .ref (a + 1 + j) :: S)) rfl rfl (hb hby d.1)
  obtain ⟨T', locs', k', n', r, G', g1, g2, g3, g4, g5, g6, g7, g8⟩ := h hw p e s m args below meth c T1 _ L hx hby hml hret hnm hown hZ hf hsz X1 (by rw [e1]; exact hR.putA hk hq (by simp) hi W1) (Fr.snoc X1 hF (by have := hR.objs.1; omega))
  exact ⟨T', locs', k', n', r, G', g1, g2, g3, g4, g5, g6, g7, fun fs hr => st1 _ (g8 fs hr)⟩
theorem Runs.lastoreA {i len : Int32} {x : Int64} (d : DAt M pc .lastore 1 q) (hk : K.2.2[j]? = some (nm, .long, len)) (hq : j < qq) (hi : ¬ i < 0 ∧ i < len) (h : Runs C M k n q P S (top, (a, qq, sJ ob j i x) :: H) Q) : Runs C M k n pc P (.long x :: .int i :: .ref (a + 1 + j) :: S) (top, (a, qq, ob) :: H) Q := by
  intro hw p e s m args below meth c T locs L hx hby hml hret hnm hown hZ hf hsz X hR hF
  have hqq := d.2
  subst hqq
  obtain ⟨cl, A, Sz, V⟩ := (hR.objs.2.2.2.2.1 j _ hk hq).2
  obtain ⟨T1, h1, X1, e1, W1, st1⟩ := stJ X hx hZ rfl A (j := i) (x := x) (inb_of Sz hi) (g := mkF m pc L (.long x :: .int i :: .ref (a + 1 + j) :: S)) rfl rfl (hb hby d.1)
  obtain ⟨T', locs', k', n', r, G', g1, g2, g3, g4, g5, g6, g7, g8⟩ := h hw p e s m args below meth c T1 _ L hx hby hml hret hnm hown hZ hf hsz X1 (by rw [e1]; exact hR.putJ hk hq rfl hi W1) (Fr.snoc X1 hF (by have := hR.objs.1; omega))
  exact ⟨T', locs', k', n', r, G', g1, g2, g3, g4, g5, g6, g7, fun fs hr => st1 _ (g8 fs hr)⟩
/-- the script: an array that stood before the law began -/
def ScrF (C : Ctx) (sa : Nat) (z : Int32) (f : Int32 → Int32) : Prop := ∃ cl : Cell, Scr C.2.1 C.2.1.heap sa cl z ∧ f = atv cl
theorem Runs.lenS {sa : Nat} {z : Int32} {f : Int32 → Int32} (hs : ScrF C sa z f) (d : DAt M pc .arraylength 1 q) (h : Runs C M k n q P (.int z :: S) G Q) : Runs C M k n pc P (.ref sa :: S) G Q := by
  have hqq := d.2
  subst hqq
  refine Runs.pure d (fun p e s m args below meth c T locs L hw hx hown hZ hd hP hsz hR X => ⟨L, hP, hsz, fun t r => ?_⟩) h
  obtain ⟨cl, F, -⟩ := hs
  obtain ⟨A, Sz, N, V⟩ := F.ext hR.2.1.2
  exact X.arraylength hx A.1 (State.isArrayOf_alike hZ.alike A.2.1) (g := mkF m pc L (.ref sa :: S)) rfl rfl hd _ (by rw [len_of Sz N]; exact r)
theorem Runs.ialoadS {sa : Nat} {z i : Int32} {f : Int32 → Int32} (hs : ScrF C sa z f) (d : DAt M pc .iaload 1 q) (hi : ¬ i < 0 ∧ i < z) (h : Runs C M k n q P (.int (f i) :: S) G Q) : Runs C M k n pc P (.int i :: .ref sa :: S) G Q := by
  have hqq := d.2
  subst hqq
  refine Runs.pure d (fun p e s m args below meth c T locs L hw hx hown hZ hd hP hsz hR X => ⟨L, hP, hsz, fun t r => ?_⟩) h
  obtain ⟨cl, F, rfl⟩ := hs
  obtain ⟨A, Sz, N, V⟩ := F.ext hR.2.1.2
  exact X.iaload hx (j := i) (v := .int (atv cl i)) A.1 (State.isArrayOf_alike hZ.alike A.2.1) A.2.2 (inb_of Sz hi) (V i (inb_of Sz hi)) (g := mkF m pc L (.int i :: .ref sa :: S)) rfl rfl hd _ r
/- leaving -/
theorem Runs.retI {v : Int32} (d : DAt M pc .ireturn 1 q) (hret : M.2.2.2.1 = some .int) (hk : k ≤ M.2.2.2.2.cells ∧ n ≤ M.2.2.2.2.slots) (hQ : Q (some (.int v)) G) : Runs C M k n pc P (.int v :: S) G Q := by
  intro hw p e s m args below meth c T locs L hx hby hml hr0 hnm hown hZ hf hsz X hR hF
  exact ⟨T, locs, k, n, _, G, X, hk.1, hk.2, hR, hF, hQ, (fun u => by rw [hret] at u; cases u), fun fs hr => Jvm.RoadKit.retI X hx (hr0.trans hret) (hb hby d.1) hr⟩
theorem Runs.retZ {v : Int32} (d : DAt M pc .ireturn 1 q) (hret : M.2.2.2.1 = some .boolean) (hk : k ≤ M.2.2.2.2.cells ∧ n ≤ M.2.2.2.2.slots) {y : Int32} (hy : nar .boolean v = y) (hQ : Q (some (.int y)) G) : Runs C M k n pc P (.int v :: S) G Q := by
  subst hy
  intro hw p e s m args below meth c T locs L hx hby hml hr0 hnm hown hZ hf hsz X hR hF
  exact ⟨T, locs, k, n, _, G, X, hk.1, hk.2, hR, hF, hQ, (fun u => by rw [hret] at u; cases u), fun fs hr => retN X hx (t := .boolean) (hr0.trans hret) (by simp) (hb hby d.1) hr⟩
theorem Runs.retJ {v : Int64} (d : DAt M pc .lreturn 1 q) (hret : M.2.2.2.1 = some .long) (hk : k ≤ M.2.2.2.2.cells ∧ n ≤ M.2.2.2.2.slots) (hQ : Q (some (.long v)) G) : Runs C M k n pc P (.long v :: []) G Q := by
  intro hw p e s m args below meth c T locs L hx hby hml hr0 hnm hown hZ hf hsz X hR hF
  exact ⟨T, locs, k, n, _, G, X, hk.1, hk.2, hR, hF, hQ, (fun u => by rw [hret] at u; cases u), fun fs hr => X.lreturnOut hx (hr0.trans hret) (hb hby d.1) hr⟩
theorem Runs.retV (d : DAt M pc .return_ 1 q) (hret : M.2.2.2.1 = none) (hk : k ≤ M.2.2.2.2.cells ∧ n ≤ M.2.2.2.2.slots) (hQ : Q none G) : Runs C M k n pc P [] G Q := by
  intro hw p e s m args below meth c T locs L hx hby hml hr0 hnm hown hZ hf hsz X hR hF
  exact ⟨T, locs, k, n, _, G, X, hk.1, hk.2, hR, hF, hQ, (fun _ => rfl), fun fs hr => X.returnOut hx (hr0.trans hret) (hb hby d.1) hr⟩
/- a new object, and the arrays that its constructor makes -/
theorem Runs.newK (d : DAt M pc (.new idx) 3 q) (w : Jvm.Cond.classLink M.1.cls idx K.1 ∈ tables_1) (hc : k + 1 ≤ M.2.2.2.2.cells ∧ n + kN ≤ M.2.2.2.2.slots) {k' n' : Nat} (hk' : k + 1 = k') (hn' : n + kN = n') {H : List (Nat × Nat × Rec)} (hd : ∀ x ∈ H, x.1 + x.2.1 < top) (h : Runs C M k' n' q P (.ref top :: S) (top + 1, (top, 0, zrec) :: H) Q) : Runs C M k n pc P S (top, H) Q := by
  subst hk' hn'
  intro hw p e s m args below meth c T locs L hx hby hml hr0 hnm hown hZ hf hsz X hR hF
  have hqq := d.2
  subst hqq
  obtain ⟨T2, X2, s2, E2, A2, D2, st2⟩ := new1 X hx hZ hown (hw _ w) (hw _ kI) (hw _ kZ) (g := mkF m pc L S) rfl (hb hby d.1) hc.1 hc.2
  have hs : T.heap.size = top := hR.1
  rw [hs] at A2 D2 st2 s2
  have hR2 : Rep C.2.1 C.2.2.1 T2.heap (top + 1, (top, 0, zrec) :: H) := by
    refine ⟨s2, hR.2.1.ext E2, fun x hx' => ?_, ?_⟩
    · rcases List.mem_cons.mp hx' with rfl | hx'
      · refine ⟨?_, by simp, A2, fun k nd hk => ?_, fun k t hk hq => by simp at hq, fun k t hk hq => ?_⟩
        · have := hR.2.1.2.1; rw [hR.2.1.1] at this; simp only; omega
        · rcases (All.mem kS (List.mem_of_getElem? hk)).2 with e | e
          · have := D2 (laidS hw hk) (ty := .int) (by rw [e]; decide); exact this
          · have := D2 (laidS hw hk) (ty := .boolean) (by rw [e]; decide); exact this
        · have := D2 (laidA hw hk) (pfA hk); exact this
      · obtain ⟨p1, p2, p3⟩ := hR.2.2.1 x hx'
        exact ⟨p1, by simp only at p2 ⊢; omega, p3.ext E2⟩
    · exact List.pairwise_cons.mpr ⟨fun y hy => Or.inr (hd y hy), hR.2.2.2⟩
  obtain ⟨T', locs', k', n', r, G', g1, g2, g3, g4, g5, g6, g7, g8⟩ := h hw p e s m args below meth c T2 _ L hx hby hml hr0 hnm hown hZ hf hsz X2 hR2 hF
  exact ⟨T', locs', k', n', r, G', g1, g2, g3, g4, g5, g6, g7, fun fs hr => st2 _ (g8 fs hr)⟩
/-- newarray and the putfield behind it: the next array of an object that is being made -/
theorem Runs.newArr {aty : ArrayType} {ty : FieldType} {len : Int32} {q1 : Nat} (d : DAt M pc (.newarray aty) 2 q1) (d' : DAt M q1 (.putfield idx) 3 q) (hk : K.2.2[j]? = some (nm, ty, len)) (w : Jvm.Cond.fieldLink M.1.cls idx K.1 nm (aD ty) ∈ tables_1) (ht : newarray.typeOf aty = ty) (wa : Jvm.Cond.arrayClass ty ∈ tables_1) (hm : Mine M nm (aD ty))
    (htop : top = a + 1 + j) (hlen : ¬ len < 0 ∧ len.toNatClampNeg * 8 ≤ 536870912) (hc : k + 1 ≤ M.2.2.2.2.cells ∧ n + len.toNatClampNeg ≤ M.2.2.2.2.slots) (hz : (∀ i, ob.2.1 j i = 0) ∧ (∀ i, ob.2.2 j i = 0)) {j' top' k' n' : Nat} (hj' : j + 1 = j') (ht' : top + 1 = top') (hk' : k + 1 = k') (hn' : n + len.toNatClampNeg = n')
    (h : Runs C M k' n' q P S (top', (a, j', ob) :: H) Q) : Runs C M k n pc P (.int len :: .ref a :: S) (top, (a, j, ob) :: H) Q := by
  subst hj' ht' hk' hn'
  intro hw p e s m args below meth c T locs L hx hby hml hr0 hnm hown hZ hf hsz X hR hF
  have hqq := d.2
  have hqq' := d'.2
  subst hqq hqq' ht
  obtain ⟨T1, cA, X1, s1, E1, A1, st1⟩ := newArr1 X hx hZ (hw _ wa) (g := mkF m pc L (.int len :: .ref a :: S)) rfl (hb hby d.1) rfl hlen.1 hlen.2 hc.1 hc.2
  have hs : T.heap.size = top := hR.1
  rw [hs] at A1 st1 s1
  have O1 := hR.objs.2.2.ext E1
  obtain ⟨T2, h2, X2, e2, W2, st2⟩ := putF X1 hx hZ hown (host := "") (Or.inl (hw _ w)) Via.refl rfl (O1.2.2.2 j _ hk (Nat.le_refl _)) O1.1 (lw_of hw ((All.mem kA (List.mem_of_getElem? hk)).1) (hm.imp id (fun u => ⟨u.1, hnm.trans u.2⟩))) (hw _ kI) (ty := .array (newarray.typeOf aty)) (pfA hk) rfl rfl (g := mkF m (pc + 2) L (.ref top :: .ref a :: S)) rfl rfl (hb hby d'.1)
  have hts : (newarray.typeOf aty = .int ∨ newarray.typeOf aty = .boolean ∨ newarray.typeOf aty = .long) := (All.mem kA (List.mem_of_getElem? hk)).2.1
  have hA := arr_new A1 hts hz
  have hR2 : Rep C.2.1 C.2.2.1 T2.heap (top + 1, (a, j + 1, ob) :: H) := by rw [e2]; exact hR.addA hw E1 s1 htop hk hA W2
  obtain ⟨T', locs', k', n', r, G', g1, g2, g3, g4, g5, g6, g7, g8⟩ := h hw p e s m args below meth c T2 _ L hx hby hml hr0 hnm hown hZ hf hsz X2 hR2 (Fr.snoc X2 hF hR.objs.1)
  exact ⟨T', locs', k', n', r, G', g1, g2, g3, g4, g5, g6, g7, fun fs hr => st1 _ (st2 _ (g8 fs hr))⟩
theorem Runs.initO {W : Nat} (d : DAt M pc (.invokespecial idx) 3 q) (w1 : Jvm.Cond.methodLink M.1.cls idx Lib.objectInit ∈ tables_1) (w2 : Jvm.Cond.instanceMethod Lib.objectInit ∈ tables_1) (w3 : Jvm.Cond.code Lib.objectInit ⟨#[0xb1]⟩ 1 none ∈ tables_1) (hW : (S.map fun v => v.category).sum = W) (hc : 1 ≤ M.2.2.2.2.frames ∧ W + 12 ≤ M.2.2.2.2.locals) (h : Runs C M k n q P S G Q) : Runs C M k n pc P (.ref a :: S) G Q := by
  intro hw p e s m args below meth c T locs L hx hby hml hr0 hnm hown hZ hf hsz X hR hF
  have hqq := d.2
  subst hqq
  obtain ⟨T1, X1, e1, st1⟩ := Jvm.RoadKit.initO X hx hZ hown (hw _ w1) (hw _ w2) (hw _ w3) rfl (g := mkF m pc L (.ref a :: S)) rfl (by rw [hml]; exact hsz) rfl (hb hby d.1) hc.1 (W := W) (by show 2 * 0 + _ ≤ _; omega) hc.2
  obtain ⟨T', locs', k', n', r, G', g1, g2, g3, g4, g5, g6, g7, g8⟩ := h hw p e s m args below meth c T1 _ L hx hby hml hr0 hnm hown hZ hf hsz X1 (by rw [e1]; exact hR) hF
  exact ⟨T', locs', k', n', r, G', g1, g2, g3, g4, g5, g6, g7, fun fs hr => st1 _ (g8 fs hr)⟩
end Heap
/- a body's contract, and the calls that are paid by one -/
def Pays (C : Ctx) (N : Bdy) (as : List Value) (G : AH) (Q : Option Value → AH → Prop) : Prop :=
  Ok C → ∀ h0 : Heap, Rep C.2.1 C.2.2.1 h0 G → ∀ ws : List Jvm.Cond, MetFree C.1 N.1 (head1 (Jvm.Cond.code N.1 N.2.1 N.2.2.1 N.2.2.2.1 :: ws) N.2.2.2.2) (fun a U => a = as.toArray ∧ C.2.1.Warmed39 U.vm ∧ U.heap = h0) (fun _ _ _ _ _ => True)
    (fun _ U o U' => ∃ v L, o = .returned v ∧ (Fr C.2.2.1 L ∧ ∃ G', Rep C.2.1 C.2.2.1 U'.heap G' ∧ Q v G') ∧ FrameEnd U o U' L N.2.2.2.2.cells N.2.2.2.2.slots)
def lay : List Value → List Slot
  | [] => []
  | v :: l => if v.category = 2 then .val v :: .second :: lay l else .val v :: lay l
theorem lay_foldl (l : List Value) : ∀ acc : Array Slot, (l.foldl (fun acc v => if v.category = 2 then (acc.push (.val v)).push .second else acc.push (.val v)) acc).toList = acc.toList ++ lay l := by
  induction l with
  | nil => intro acc; simp [lay]
  | cons v l ih =>
    intro acc
    rw [List.foldl_cons, ih]
    by_cases h : v.category = 2 <;> simp [lay, h]
theorem args_lay (as : List Value) (ml : Nat) : argsToLocals as.toArray ml = (lay as ++ List.replicate (ml - (lay as).length) Slot.unset).toArray := by
  have h := lay_foldl as #[]
  apply Array.ext'
  simp only [argsToLocals, Array.toList_append, List.toList_toArray] at *
  rw [show (as.toArray.foldl (init := #[]) fun acc v => if v.category = 2 then (acc.push (Slot.val v)).push .second else acc.push (.val v)).toList = lay as by simpa using h]
  congr 1
  rw [← Array.length_toList, show (as.toArray.foldl (init := #[]) fun acc v => if v.category = 2 then (acc.push (Slot.val v)).push .second else acc.push (.val v)).toList = lay as by simpa using h]
  simp
def WFL (l : List Slot) : Prop := (∀ i : Nat, l[i]? = some .second → ∃ (j : Nat) (v : Value), i = j + 1 ∧ l[j]? = some (.val v) ∧ v.category = 2) ∧ (∀ (i : Nat) (v : Value), l[i]? = some (.val v) → v.category = 2 → l[i + 1]? = some .second)
theorem WFL.unset (n : Nat) : WFL (List.replicate n Slot.unset) := by
  refine ⟨fun i h => ?_, fun i v h => ?_⟩ <;> (rw [List.getElem?_replicate] at h; split at h <;> cases h)
theorem WFL.one {l : List Slot} {v : Value} (h : WFL l) (hv : v.category ≠ 2) : WFL (.val v :: l) := by
  refine ⟨fun i hi => ?_, fun i w hi hw => ?_⟩
  · cases i with
    | zero => simp at hi
    | succ i =>
      obtain ⟨j, w, e1, e2, e3⟩ := h.1 i (by simpa using hi)
      exact ⟨j + 1, w, by omega, by simpa using e2, e3⟩
  · cases i with
    | zero => simp at hi; subst hi; exact absurd hw hv
    | succ i => have := h.2 i w (by simpa using hi) hw; simpa using this
theorem WFL.two {l : List Slot} {v : Value} (h : WFL l) (hv : v.category = 2) : WFL (.val v :: .second :: l) := by
  refine ⟨fun i hi => ?_, fun i w hi hw => ?_⟩
  · match i, hi with
    | 0, hi => simp at hi
    | 1, hi => exact ⟨0, v, rfl, by simp, hv⟩
    | i + 2, hi =>
      obtain ⟨j, w, e1, e2, e3⟩ := h.1 i (by simpa using hi)
      exact ⟨j + 2, w, by omega, by simpa using e2, e3⟩
  · match i, hi with
    | 0, hi => simp
    | 1, hi => simp at hi
    | i + 2, hi => have := h.2 i w (by simpa using hi) hw; simpa using this
theorem WFL.lay (as : List Value) (n : Nat) : WFL (lay as ++ List.replicate n Slot.unset) := by
  induction as with
  | nil => exact WFL.unset n
  | cons v l ih =>
    by_cases h : v.category = 2
    · simpa [Jvm.Pilot.@@N@@.lay, h] using ih.two h
    · simpa [Jvm.Pilot.@@N@@.lay, h] using ih.one h
def pforget : List Bool → Pat → Pat
  | [], _ => []
  | _, [] => []
  | true :: ms, x :: l => x :: pforget ms l
  | false :: ms, _ :: l => none :: pforget ms l
theorem pforget_get : ∀ (ms : List Bool) (P : Pat) (i : Nat) (s : Slot), pget (pforget ms P) i = some s → pget P i = some s
  | [], _, i, s, h => by simp [pforget, pget] at h
  | _ :: _, [], i, s, h => by simp [pforget, pget] at h
  | true :: ms, x :: l, 0, s, h => h
  | true :: ms, x :: l, i + 1, s, h => pforget_get ms l i s h
  | false :: ms, x :: l, 0, s, h => by simp [pforget, pget] at h
  | false :: ms, x :: l, i + 1, s, h => pforget_get ms l i s h
section Calls
variable {C : Ctx} {M N : Bdy} {k n pc q : Nat} {P P' : Pat} {S S' : List Value} {G G1 : AH} {Q : Option Value → AH → Prop} {top : Nat} {a : Nat} {qq j idx W : Nat} {ob : Rec} {H : List (Nat × Nat × Rec)} {as : List Value}
theorem Runs.forget (ms : List Bool) (hP : pforget ms P = P') (h : Runs C M k n pc P' S G Q) : Runs C M k n pc P S G Q := by
  intro hw p e s m args below meth c T locs L hx hby hml hret hnm hown hZ hf
  subst hP
  exact h hw p e s m args below meth c T locs L hx hby hml hret hnm hown hZ ⟨fun i s hi => hf.1 i s (pforget_get _ _ i s hi), hf.2⟩
theorem Pays.of (hpl : plainName N.1.cls = true) (hml : (lay as).length ≤ N.2.2.1) (x : Nat) (hP : (lay as).map some ++ List.replicate x none = P) (h : Runs C N 0 0 0 P [] G Q) : Pays C N as G Q := by
  intro hw h0 hR ws
  refine MetFree.of_bodySF (plainFor_of_name hpl) hisR ?_
  intro p e s m args below meth c s₁ Bd hml0 hp hK
  obtain ⟨rfl, hZ, hh⟩ := hp
  have X0 : Stand p C.1 e N.2.2.2.2 s m as.toArray below meth c s₁ [] 0 0 := Stand.of_body Bd
  have e0 : s₁.heap = h0 := by rw [← hh, Bd.state]; rfl
  obtain ⟨L, hL⟩ : ∃ L : Array Slot, L = (lay as ++ List.replicate (N.2.2.1 - (lay as).length) Slot.unset).toArray := ⟨_, rfl⟩
  have hfit : Fits P L := by
    subst hP hL
    refine ⟨fun i s hi => ?_, ?_⟩
    · rw [pget_eq] at hi
      cases hq : (lay as)[i]? with
      | none =>
        rw [List.getElem?_append_right (by simpa using hq), List.getElem?_replicate] at hi
        split at hi <;> simp at hi
      | some y =>
        have hlt := (List.getElem?_eq_some_iff.mp hq).1
        rw [List.getElem?_append_left (by simpa using hlt), List.getElem?_map, hq] at hi
        have this : y = s := by simpa using hi
        simp only [List.getElem?_toArray]
        rw [List.getElem?_append_left hlt, hq, this]
    · have := WFL.lay as (N.2.2.1 - (lay as).length)
      refine ⟨fun i hi => ?_, fun i v hi hv => ?_⟩
      · rw [List.getElem?_toArray] at hi
        obtain ⟨j, v, e1, e2, e3⟩ := this.1 i hi
        exact ⟨j, v, e1, by rw [List.getElem?_toArray]; exact e2, e3⟩
      · rw [List.getElem?_toArray] at hi ⊢
        exact this.2 i v hi hv
  obtain ⟨T', locs', k', n', r, G', g1, g2, g3, g4, g5, g6, g7, g8⟩ := h hw p e s m as.toArray below meth c s₁ [] L Bd.exec Bd.bytes hml0 Bd.returns (name_of_methodNamed Bd.named Bd.method).1 (findClass_of_methodNamed Bd.named) hZ hfit (by rw [hL]; simp; omega) X0 (by rw [e0]; exact hR) (Fr.nil _)
  obtain ⟨fs, hr, hrun, hended, hW, hsame⟩ := g1.leave (v := r) (fun u => g7 (by rw [← Bd.returns]; exact u))
  refine ⟨_, _, ?_, hrun, hended, _, _, rfl, ⟨g5, G', ?_, g6⟩, ⟨_, rfl⟩, hW, hsame.mono g2 g3⟩
  · have ef : entryFrame m as.toArray N.2.2.1 = mkF m 0 L [] := by
      rw [hL, ← args_lay]; rfl
    rw [ef]; exact g8 fs hr
  · exact g4
abbrev room_al (M N : Bdy) (W k n : Nat) : Prop := N.2.2.2.2.frames + 1 ≤ M.2.2.2.2.frames ∧ W + (N.2.2.1 + 11) + N.2.2.2.2.locals ≤ M.2.2.2.2.locals ∧ k + N.2.2.2.2.cells ≤ M.2.2.2.2.cells ∧ n + N.2.2.2.2.slots ≤ M.2.2.2.2.slots
abbrev room_ok (M N : Bdy) (W : Nat) : Prop := N.2.2.2.2.frames + 1 ≤ M.2.2.2.2.frames ∧ W + (N.2.2.1 + 11) + N.2.2.2.2.locals ≤ M.2.2.2.2.locals ∧ N.2.2.2.2.cells = 0 ∧ N.2.2.2.2.slots = 0
abbrev full_ok (M : Bdy) (k n : Nat) : Prop := k ≤ M.2.2.2.2.cells ∧ n ≤ M.2.2.2.2.slots
theorem room_ok.al (h : room_ok M N W) (f : full_ok M k n) : room_al M N W k n := ⟨h.1, h.2.1, by rw [h.2.2.1]; exact f.1, by rw [h.2.2.2]; exact f.2⟩
abbrev code_w (N : Bdy) : Prop := Jvm.Cond.code N.1 N.2.1 N.2.2.1 N.2.2.2.1 ∈ tables_1 ∧ Jvm.Cond.initialized N.1.cls ∈ tables_1 ∧ (N.1.cls ≠ "java/lang/invoke/MethodHandle" ∧ N.1.cls ≠ "java/lang/invoke/VarHandle")
def arity (N : Bdy) (na : Nat) : Prop := ∃ ps r, parseMethodDescriptor N.1.desc = some ⟨ps, r⟩ ∧ na = ps.length
theorem arity.len {na : Nat} (h : arity N na) (e : as.length = na) : ∀ sig, parseMethodDescriptor N.1.desc = some sig → as.length = sig.parameters.length := by
  obtain ⟨ps, r, h1, h2⟩ := h
  exact lenOf h1 (e.trans h2)
theorem after_call {v : Option Value} {p : Program} {e : Env} {s : State} {m : MethodId} {args : Array Value} {below : List Frame} {meth : Method} {c : Code} {T T0 : State} {locs : List Loc} {L : Array Slot} {QN : Option Value → AH → Prop} {Lc : List Loc}
    (hw : Ok C) (hx : p.tables.exec = Jvm.exec) (hby : c.code = M.2.1) (hml : c.maxLocals = M.2.2.1) (hret : meth.sig.returnType = M.2.2.2.1) (hnm : meth.name = M.1.name) (hown : s.vm.findClass M.1.cls = some m.cls) (hZ : C.2.1.Warmed39 s.vm) (hf : Fits P L) (hsz : L.size = M.2.2.1) (hF : Fr C.2.2.1 locs)
    (X : Stand p C.1 e M.2.2.2.2 s m args below meth c T (locs ++ Lc) (k + N.2.2.2.2.cells) (n + N.2.2.2.2.slots)) (hQ : Fr C.2.2.1 Lc ∧ ∃ G', Rep C.2.1 C.2.2.1 T.heap G' ∧ QN v G')
    (h : ∀ v G', QN v G' → Runs C M (k + N.2.2.2.2.cells) (n + N.2.2.2.2.slots) (pc + 3) P (v.toList ++ S') G' Q)
    (st : ∀ t, Steps p.tables e below (T.setTop (mkF m (pc + 3) L (v.toList ++ S'))) t → Steps p.tables e below (T0.setTop (mkF m pc L S)) t) :
    ∃ (T' : State) (locs' : List Loc) (k' n' : Nat) (r : Option Value) (G' : AH), Stand p C.1 e M.2.2.2.2 s m args below meth c T' locs' k' n' ∧ k' ≤ M.2.2.2.2.cells ∧ n' ≤ M.2.2.2.2.slots ∧ Rep C.2.1 C.2.2.1 T'.heap G' ∧ Fr C.2.2.1 locs' ∧ Q r G' ∧
      (M.2.2.2.1 = none → r = none) ∧
      ∀ fs : List Frame, (∀ (f : JFrame) (acts : List Action), f.method = m → f.locked = none → f.entered = [] → (doReturn e (T'.setTop f) acts r).1 = T'.setFrames fs) → Steps p.tables e below (T0.setTop (mkF m pc L S)) (T'.setFrames fs) := by
  obtain ⟨f1, G', f2, f3⟩ := hQ
  obtain ⟨T', locs', k', n', r, G'', g1, g2, g3, g4, g5, g6, g7, g8⟩ := h v G' f3 hw p e s m args below meth c T _ L hx hby hml hret hnm hown hZ hf hsz X f2 (Fr.app hF f1)
  exact ⟨T', locs', k', n', r, G'', g1, g2, g3, g4, g5, g6, g7, fun fs hr => st _ (g8 fs hr)⟩
theorem Runs.callS {QN : Option Value → AH → Prop} (d : DAt M pc (.invokestatic idx) 3 q) (wl : Jvm.Cond.methodLink M.1.cls idx N.1 ∈ tables_1) (wt : Jvm.Cond.static N.1 ∈ tables_1) (wc : code_w N) (ar : arity N as.length) (hr0 : room_ok M N W) (hfull : full_ok M k n) (hS : S = as.reverse ++ S') (hW : (S'.map fun v => v.category).sum = W)
    (hN : Pays C N as G QN) (h : ∀ v G', QN v G' → Runs C M k n q P (v.toList ++ S') G' Q) : Runs C M k n pc P S G Q := by
  intro hw p e s m args below meth c T locs L hx hby hml hret hnm hown hZ hf hsz X hR hF
  have hq := d.2
  subst hq hS
  have hr := hr0.al hfull
  obtain ⟨_, _, ⟨T1, L1, k1, n1⟩, -, X1, ⟨Lc, hQ, l1, y1, z1⟩, st⟩ := Jvm.LawKit.callS X hx (y := N.1) hown (mvT hZ (hw _ wl)) (mvT hZ (hw _ wt)) (mvT hZ (hw _ wc.2.1)) (mvT hZ (hw _ wc.1)) wc.2.2 (backOf (W := W) (Q := fun v h L => Fr C.2.2.1 L ∧ ∃ G', Rep C.2.1 C.2.2.1 h G' ∧ QN v G') (hN hw T.heap hR []) hZ (hw _ wc.1) (hw _ wc.2.1) hr.1 hr.2.1) (g := mkF m pc L (as.reverse ++ S')) rfl (by rw [hml]; exact hsz) (argsL := as) (rest := S') (ar.len rfl) rfl (by show 2 * 0 + _ ≤ _; omega) (hb hby d.1) (fun _ _ => ⟨rfl, rfl, hr.2.2.1, hr.2.2.2⟩)
  dsimp only [Pt.U, Pt.locs, Pt.cells, Pt.slots] at X1 l1 y1 z1 st hQ
  subst l1 y1 z1
  exact after_call hw hx hby hml hret hnm hown hZ hf hsz hF X1 hQ (by rw [hr0.2.2.1, hr0.2.2.2]; exact h) (fun t u => st t u)
theorem Runs.callV {QN : Option Value → AH → Prop} (d : DAt M pc (.invokevirtual idx) 3 q) (wl : Jvm.Cond.methodLink M.1.cls idx N.1 ∈ tables_1) (wd : Jvm.Cond.declares N.1 ∈ tables_1) (wi : Jvm.Cond.instanceMethod N.1 ∈ tables_1) (ws : Jvm.Cond.selects K.1 N.1 N.1 ∈ tables_1) (wc : code_w N) (ar : arity N as.length) (hr0 : room_ok M N W) (hfull : full_ok M k n) (hS : S = as.reverse ++ .ref a :: S') (hW : (S'.map fun v => v.category).sum = W)
    (hN : Pays C N (.ref a :: as) (top, (a, qq, ob) :: H) QN) (h : ∀ v G', QN v G' → Runs C M k n q P (v.toList ++ S') G' Q) : Runs C M k n pc P S (top, (a, qq, ob) :: H) Q := by
  intro hw p e s m args below meth c T locs L hx hby hml hret hnm hown hZ hf hsz X hR hF
  have hq := d.2
  subst hq hS
  have hr := hr0.al hfull
  obtain ⟨cB, kB, u1, -, u3⟩ := isOf hZ rfl hR.objs.2.2.1
  obtain ⟨_, _, ⟨T1, L1, k1, n1⟩, -, X1, ⟨Lc, hQ, l1, y1, z1⟩, st⟩ := X.virtualBack hx (y := N.1) (z := N.1) hown (mvT hZ (hw _ wl)) (mvT hZ (hw _ wd)) (notFace_of_selects (args := #[]) (mvT hZ (hw _ ws))) (mvT hZ (hw _ ws)) (mvT hZ (hw _ wi)) wc.2.2 (backOf (W := W) (Q := fun v h L => Fr C.2.2.1 L ∧ ∃ G', Rep C.2.1 C.2.2.1 h G' ∧ QN v G') (hN hw T.heap hR []) hZ (hw _ wc.1) (hw _ wc.2.1) hr.1 hr.2.1) u1 u3 (g := mkF m pc L (as.reverse ++ .ref a :: S')) rfl (by rw [hml]; exact hsz) (Steps.refl _) (argsL := as) (rest := S') (ar.len rfl) rfl (by show 2 * 0 + _ ≤ _; omega) (hb hby d.1) (fun _ _ => ⟨rfl, rfl, hr.2.2.1, hr.2.2.2⟩)
  dsimp only [Pt.U, Pt.locs, Pt.cells, Pt.slots] at X1 l1 y1 z1 st hQ
  subst l1 y1 z1
  exact after_call hw hx hby hml hret hnm hown hZ hf hsz hF X1 hQ (by rw [hr0.2.2.1, hr0.2.2.2]; exact h) (fun t u => st.trans u)
theorem Runs.callP {QN : Option Value → AH → Prop} (d : DAt M pc (.invokevirtual idx) 3 q) (wl : Jvm.Cond.methodLink M.1.cls idx N.1 ∈ tables_1) (wi : Jvm.Cond.instanceMethod N.1 ∈ tables_1) (wp : Jvm.Cond.privateMethod N.1 ∈ tables_1) (wK : N.1.cls = K.1) (wc : code_w N) (ar : arity N as.length) (hr0 : room_ok M N W) (hfull : full_ok M k n) (hS : S = as.reverse ++ .ref a :: S') (hW : (S'.map fun v => v.category).sum = W)
    (hN : Pays C N (.ref a :: as) (top, (a, qq, ob) :: H) QN) (h : ∀ v G', QN v G' → Runs C M k n q P (v.toList ++ S') G' Q) : Runs C M k n pc P S (top, (a, qq, ob) :: H) Q := by
  intro hw p e s m args below meth c T locs L hx hby hml hret hnm hown hZ hf hsz X hR hF
  have hq := d.2
  subst hq hS
  have hr := hr0.al hfull
  obtain ⟨cl, u1, u2⟩ := hR.objs.2.2.1.cell
  have hpr : s.PrivateAt N.1 := Cond.privateMethod_at (mvP hZ (hw _ wp) (args := #[]))
  obtain ⟨c2, k2, i1, i2, i3, i4, -⟩ := Cond.instantiable_spec (mvT (args := args) hZ (hw _ kI))
  have hsel : (Jvm.Cond.selects N.1.cls N.1 N.1).before args s = true := Stand.selects_self_of_private (by rw [wK]; exact i1) i2 (by simp at i4; exact i4.1) hpr (mvT hZ (hw _ wi)) wc.2.2
  obtain ⟨_, _, ⟨T1, L1, k1, n1⟩, -, X1, ⟨Lc, hQ, l1, y1, z1⟩, st⟩ := X.privateBack hx (y := N.1) hown (mvT hZ (hw _ wl)) (mvT hZ (hw _ wi)) hsel hpr (mvT hZ (hw _ wc.1)) wc.2.2 (backOf (W := W) (Q := fun v h L => Fr C.2.2.1 L ∧ ∃ G', Rep C.2.1 C.2.2.1 h G' ∧ QN v G') (hN hw T.heap hR []) hZ (hw _ wc.1) (hw _ wc.2.1) hr.1 hr.2.1) (g := mkF m pc L (as.reverse ++ .ref a :: S')) rfl (by rw [hml]; exact hsz) (Steps.refl _) (a := a) u1 u2 (argsL := as) (rest := S') (ar.len rfl) rfl (by show 2 * 0 + _ ≤ _; omega) (hb hby d.1) (fun _ _ => ⟨rfl, rfl, hr.2.2.1, hr.2.2.2⟩)
  dsimp only [Pt.U, Pt.locs, Pt.cells, Pt.slots] at X1 l1 y1 z1 st hQ
  subst l1 y1 z1
  exact after_call hw hx hby hml hret hnm hown hZ hf hsz hF X1 hQ (by rw [hr0.2.2.1, hr0.2.2.2]; exact h) (fun t u => st.trans u)
theorem Runs.callI {QN : Option Value → AH → Prop} (d : DAt M pc (.invokespecial idx) 3 q) (hi : N.1.name = "<init>") (hn : N.2.2.2.1 = none) (wl : Jvm.Cond.methodLink M.1.cls idx N.1 ∈ tables_1) (wi : Jvm.Cond.instanceMethod N.1 ∈ tables_1) (wc : code_w N) (ar : arity N as.length) (hr : room_al M N W k n) (hS : S = as.reverse ++ .ref a :: S') (hW : (S'.map fun v => v.category).sum = W) {k' n' : Nat} (hk' : k + N.2.2.2.2.cells = k') (hn' : n + N.2.2.2.2.slots = n')
    (hN : Pays C N (.ref a :: as) G QN) (h : ∀ v G', QN v G' → Runs C M k' n' q P (v.toList ++ S') G' Q) : Runs C M k n pc P S G Q := by
  intro hw p e s m args below meth c T locs L hx hby hml hret hnm hown hZ hf hsz X hR hF
  have hq := d.2
  subst hq hS hk' hn'
  have wc1 := hw _ wc.1
  obtain ⟨_, _, ⟨T1, L1, k1, n1⟩, -, X1, ⟨Lc, hQ, l1, y1, z1⟩, st⟩ := X.specialBack hx (y := N.1) hi hown (mvT hZ (hw _ wl)) (mvT hZ (hw _ wi)) (bytes := N.2.1) (maxL := N.2.2.1) (by have := mvT (args := args) hZ wc1; rw [hn] at this; exact this) wc.2.2 (backOf (W := W) (Q := fun v h L => Fr C.2.2.1 L ∧ ∃ G', Rep C.2.1 C.2.2.1 h G' ∧ QN v G') (hN hw T.heap hR []) hZ wc1 (hw _ wc.2.1) hr.1 hr.2.1) (g := mkF m pc L (as.reverse ++ .ref a :: S')) rfl (by rw [hml]; exact hsz) (Steps.refl _) (a := a) (argsL := as) (rest := S') (ar.len rfl) rfl (by show 2 * 0 + _ ≤ _; omega) (hb hby d.1) (fun _ _ => ⟨rfl, rfl, hr.2.2.1, hr.2.2.2⟩)
  dsimp only [Pt.U, Pt.locs, Pt.cells, Pt.slots] at X1 l1 y1 z1 st hQ
  subst l1 y1 z1
  exact after_call hw hx hby hml hret hnm hown hZ hf hsz hF X1 hQ h (fun t u => st.trans u)
/-- the plain form of a contract: one answer, one heap -/
abbrev Ans (r : Option Value) (G1 : AH) : Option Value → AH → Prop := fun v G' => v = r ∧ G' = G1
theorem ans1 {x : Value} {k n : Nat} (h : Runs C M k n pc P (x :: S) G1 Q) : ∀ v G', Ans (some x) G1 v G' → Runs C M k n pc P (v.toList ++ S) G' Q := by
  rintro v G' ⟨rfl, rfl⟩; exact h
theorem ans0 {k n : Nat} (h : Runs C M k n pc P S G1 Q) : ∀ v G', Ans none G1 v G' → Runs C M k n pc P (v.toList ++ S) G' Q := by
  rintro v G' ⟨rfl, rfl⟩; exact h
end Calls
theorem pnK : plainName "WsClockPager" = true := by first | (simp [plainName, overriddenIn]; done) | decide +kernel
theorem pnL : plainName "WsClockPagerL6" = true := by first | (simp [plainName, overriddenIn]; done) | decide +kernel
theorem w0 : (Jvm.Cond.classLink "WsClockPagerL6" (16 : Nat) "WsClockPager") ∈ tables_1 := mem1 0 rfl
theorem w3 : (Jvm.Cond.methodLink "WsClockPagerL6" (30 : Nat) ({ cls := "WsClockPager", name := "<init>", desc := "(IIII)V" } : Jvm.MethodName)) ∈ tables_1 := mem1 3 rfl
theorem w4 : (Jvm.Cond.instanceMethod ({ cls := "WsClockPager", name := "<init>", desc := "(IIII)V" } : Jvm.MethodName)) ∈ tables_1 := mem1 4 rfl
theorem w6 : (Jvm.Cond.methodLink "WsClockPager" (1 : Nat) ({ cls := "java/lang/Object", name := "<init>", desc := "()V" } : Jvm.MethodName)) ∈ tables_1 := mem1 6 rfl
theorem w7 : (Jvm.Cond.instanceMethod ({ cls := "java/lang/Object", name := "<init>", desc := "()V" } : Jvm.MethodName)) ∈ tables_1 := mem1 7 rfl
theorem w8 : (Jvm.Cond.code ({ cls := "java/lang/Object", name := "<init>", desc := "()V" } : Jvm.MethodName) object_method_1_code (1 : Nat) (Option.none : Option Jvm.ClassFile.FieldType)) ∈ tables_1 := mem1 8 rfl
theorem w9 : (Jvm.Cond.arrayClass Jvm.ClassFile.FieldType.boolean) ∈ tables_1 := mem1 9 rfl
theorem w10 : (Jvm.Cond.fieldLink "WsClockPager" (7 : Nat) "WsClockPager" "suspended" "[Z") ∈ tables_1 := mem1 10 rfl
theorem w11 : (Jvm.Cond.lays "WsClockPager" "WsClockPager" "suspended" "[Z") ∈ tables_1 := mem1 11 rfl
theorem w12 : (Jvm.Cond.arrayClass Jvm.ClassFile.FieldType.int) ∈ tables_1 := mem1 12 rfl
theorem w13 : (Jvm.Cond.fieldLink "WsClockPager" (13 : Nat) "WsClockPager" "vtime" "[I") ∈ tables_1 := mem1 13 rfl
theorem w14 : (Jvm.Cond.lays "WsClockPager" "WsClockPager" "vtime" "[I") ∈ tables_1 := mem1 14 rfl
theorem w15 : (Jvm.Cond.fieldLink "WsClockPager" (17 : Nat) "WsClockPager" "winLen" "[I") ∈ tables_1 := mem1 15 rfl
theorem w16 : (Jvm.Cond.lays "WsClockPager" "WsClockPager" "winLen" "[I") ∈ tables_1 := mem1 16 rfl
theorem w17 : (Jvm.Cond.fieldLink "WsClockPager" (20 : Nat) "WsClockPager" "winHead" "[I") ∈ tables_1 := mem1 17 rfl
theorem w18 : (Jvm.Cond.lays "WsClockPager" "WsClockPager" "winHead" "[I") ∈ tables_1 := mem1 18 rfl
theorem w19 : (Jvm.Cond.fieldLink "WsClockPager" (23 : Nat) "WsClockPager" "wsSize" "[I") ∈ tables_1 := mem1 19 rfl
theorem w20 : (Jvm.Cond.lays "WsClockPager" "WsClockPager" "wsSize" "[I") ∈ tables_1 := mem1 20 rfl
theorem w21 : (Jvm.Cond.fieldLink "WsClockPager" (26 : Nat) "WsClockPager" "touchedCount" "[I") ∈ tables_1 := mem1 21 rfl
theorem w22 : (Jvm.Cond.lays "WsClockPager" "WsClockPager" "touchedCount" "[I") ∈ tables_1 := mem1 22 rfl
theorem w23 : (Jvm.Cond.fieldLink "WsClockPager" (29 : Nat) "WsClockPager" "ring" "[I") ∈ tables_1 := mem1 23 rfl
theorem w24 : (Jvm.Cond.lays "WsClockPager" "WsClockPager" "ring" "[I") ∈ tables_1 := mem1 24 rfl
theorem w25 : (Jvm.Cond.fieldLink "WsClockPager" (32 : Nat) "WsClockPager" "winCount" "[I") ∈ tables_1 := mem1 25 rfl
theorem w26 : (Jvm.Cond.lays "WsClockPager" "WsClockPager" "winCount" "[I") ∈ tables_1 := mem1 26 rfl
theorem w27 : (Jvm.Cond.fieldLink "WsClockPager" (35 : Nat) "WsClockPager" "touched" "[Z") ∈ tables_1 := mem1 27 rfl
theorem w28 : (Jvm.Cond.lays "WsClockPager" "WsClockPager" "touched" "[Z") ∈ tables_1 := mem1 28 rfl
theorem w29 : (Jvm.Cond.fieldLink "WsClockPager" (38 : Nat) "WsClockPager" "pageFrame" "[I") ∈ tables_1 := mem1 29 rfl
theorem w30 : (Jvm.Cond.lays "WsClockPager" "WsClockPager" "pageFrame" "[I") ∈ tables_1 := mem1 30 rfl
theorem w31 : (Jvm.Cond.fieldLink "WsClockPager" (41 : Nat) "WsClockPager" "pageSlot" "[I") ∈ tables_1 := mem1 31 rfl
theorem w32 : (Jvm.Cond.lays "WsClockPager" "WsClockPager" "pageSlot" "[I") ∈ tables_1 := mem1 32 rfl
theorem w33 : (Jvm.Cond.fieldLink "WsClockPager" (44 : Nat) "WsClockPager" "pageLastUse" "[I") ∈ tables_1 := mem1 33 rfl
theorem w34 : (Jvm.Cond.lays "WsClockPager" "WsClockPager" "pageLastUse" "[I") ∈ tables_1 := mem1 34 rfl
theorem w35 : (Jvm.Cond.fieldLink "WsClockPager" (47 : Nat) "WsClockPager" "frameOwner" "[I") ∈ tables_1 := mem1 35 rfl
theorem w36 : (Jvm.Cond.lays "WsClockPager" "WsClockPager" "frameOwner" "[I") ∈ tables_1 := mem1 36 rfl
theorem w37 : (Jvm.Cond.fieldLink "WsClockPager" (50 : Nat) "WsClockPager" "frameRef" "[Z") ∈ tables_1 := mem1 37 rfl
theorem w38 : (Jvm.Cond.lays "WsClockPager" "WsClockPager" "frameRef" "[Z") ∈ tables_1 := mem1 38 rfl
theorem w39 : (Jvm.Cond.fieldLink "WsClockPager" (53 : Nat) "WsClockPager" "frameDirty" "[Z") ∈ tables_1 := mem1 39 rfl
theorem w40 : (Jvm.Cond.lays "WsClockPager" "WsClockPager" "frameDirty" "[Z") ∈ tables_1 := mem1 40 rfl
theorem w41 : (Jvm.Cond.fieldLink "WsClockPager" (56 : Nat) "WsClockPager" "frameWords" "[I") ∈ tables_1 := mem1 41 rfl
theorem w42 : (Jvm.Cond.lays "WsClockPager" "WsClockPager" "frameWords" "[I") ∈ tables_1 := mem1 42 rfl
theorem w43 : (Jvm.Cond.fieldLink "WsClockPager" (59 : Nat) "WsClockPager" "slotUsed" "[Z") ∈ tables_1 := mem1 43 rfl
theorem w44 : (Jvm.Cond.lays "WsClockPager" "WsClockPager" "slotUsed" "[Z") ∈ tables_1 := mem1 44 rfl
theorem w45 : (Jvm.Cond.fieldLink "WsClockPager" (62 : Nat) "WsClockPager" "swapWords" "[I") ∈ tables_1 := mem1 45 rfl
theorem w46 : (Jvm.Cond.lays "WsClockPager" "WsClockPager" "swapWords" "[I") ∈ tables_1 := mem1 46 rfl
theorem w47 : (Jvm.Cond.methodLink "WsClockPager" (65 : Nat) ({ cls := "WsClockPager", name := "clamp", desc := "(III)I" } : Jvm.MethodName)) ∈ tables_1 := mem1 47 rfl
theorem w48 : (Jvm.Cond.instanceMethod ({ cls := "WsClockPager", name := "clamp", desc := "(III)I" } : Jvm.MethodName)) ∈ tables_1 := mem1 48 rfl
theorem w49 : (Jvm.Cond.privateMethod ({ cls := "WsClockPager", name := "clamp", desc := "(III)I" } : Jvm.MethodName)) ∈ tables_1 := mem1 49 rfl
theorem w51 : (Jvm.Cond.fieldLink "WsClockPager" (69 : Nat) "WsClockPager" "procs" "I") ∈ tables_1 := mem1 51 rfl
theorem w52 : (Jvm.Cond.lays "WsClockPager" "WsClockPager" "procs" "I") ∈ tables_1 := mem1 52 rfl
theorem w53 : (Jvm.Cond.fieldLink "WsClockPager" (73 : Nat) "WsClockPager" "pages" "I") ∈ tables_1 := mem1 53 rfl
theorem w54 : (Jvm.Cond.lays "WsClockPager" "WsClockPager" "pages" "I") ∈ tables_1 := mem1 54 rfl
theorem w55 : (Jvm.Cond.fieldLink "WsClockPager" (76 : Nat) "WsClockPager" "frames" "I") ∈ tables_1 := mem1 55 rfl
theorem w56 : (Jvm.Cond.lays "WsClockPager" "WsClockPager" "frames" "I") ∈ tables_1 := mem1 56 rfl
theorem w57 : (Jvm.Cond.fieldLink "WsClockPager" (79 : Nat) "WsClockPager" "tau" "I") ∈ tables_1 := mem1 57 rfl
theorem w58 : (Jvm.Cond.lays "WsClockPager" "WsClockPager" "tau" "I") ∈ tables_1 := mem1 58 rfl
theorem w59 : (Jvm.Cond.fieldLink "WsClockPager" (82 : Nat) "WsClockPager" "status" "I") ∈ tables_1 := mem1 59 rfl
theorem w60 : (Jvm.Cond.lays "WsClockPager" "WsClockPager" "status" "I") ∈ tables_1 := mem1 60 rfl
theorem w61 : (Jvm.Cond.fieldLink "WsClockPager" (85 : Nat) "WsClockPager" "suspensionCount" "I") ∈ tables_1 := mem1 61 rfl
theorem w62 : (Jvm.Cond.lays "WsClockPager" "WsClockPager" "suspensionCount" "I") ∈ tables_1 := mem1 62 rfl
theorem w63 : (Jvm.Cond.fieldLink "WsClockPager" (88 : Nat) "WsClockPager" "readmissionCount" "I") ∈ tables_1 := mem1 63 rfl
theorem w64 : (Jvm.Cond.lays "WsClockPager" "WsClockPager" "readmissionCount" "I") ∈ tables_1 := mem1 64 rfl
theorem w65 : (Jvm.Cond.fieldLink "WsClockPager" (91 : Nat) "WsClockPager" "hand" "I") ∈ tables_1 := mem1 65 rfl
theorem w66 : (Jvm.Cond.lays "WsClockPager" "WsClockPager" "hand" "I") ∈ tables_1 := mem1 66 rfl
theorem w67 : (Jvm.Cond.constant "WsClockPagerL6" (33 : Nat) (2147483647 : Int32)) ∈ tables_1 := mem1 67 rfl
theorem w68 : (Jvm.Cond.methodLink "WsClockPagerL6" (34 : Nat) ({ cls := "WsClockPager", name := "isSuspended", desc := "(I)Z" } : Jvm.MethodName)) ∈ tables_1 := mem1 68 rfl
theorem w69 : (Jvm.Cond.declares ({ cls := "WsClockPager", name := "isSuspended", desc := "(I)Z" } : Jvm.MethodName)) ∈ tables_1 := mem1 69 rfl
theorem w70 : (Jvm.Cond.instanceMethod ({ cls := "WsClockPager", name := "isSuspended", desc := "(I)Z" } : Jvm.MethodName)) ∈ tables_1 := mem1 70 rfl
theorem w71 : (Jvm.Cond.selects "WsClockPager" ({ cls := "WsClockPager", name := "isSuspended", desc := "(I)Z" } : Jvm.MethodName) ({ cls := "WsClockPager", name := "isSuspended", desc := "(I)Z" } : Jvm.MethodName)) ∈ tables_1 := mem1 71 rfl
theorem w73 : (Jvm.Cond.methodLink "WsClockPager" (111 : Nat) ({ cls := "WsClockPager", name := "validPid", desc := "(I)Z" } : Jvm.MethodName)) ∈ tables_1 := mem1 73 rfl
theorem w74 : (Jvm.Cond.instanceMethod ({ cls := "WsClockPager", name := "validPid", desc := "(I)Z" } : Jvm.MethodName)) ∈ tables_1 := mem1 74 rfl
theorem w75 : (Jvm.Cond.privateMethod ({ cls := "WsClockPager", name := "validPid", desc := "(I)Z" } : Jvm.MethodName)) ∈ tables_1 := mem1 75 rfl
theorem w77 : (Jvm.Cond.methodLink "WsClockPagerL6" (7 : Nat) ({ cls := "WsClockPagerL6", name := "val", desc := "(II)I" } : Jvm.MethodName)) ∈ tables_1 := mem1 77 rfl
theorem w78 : (Jvm.Cond.static ({ cls := "WsClockPagerL6", name := "val", desc := "(II)I" } : Jvm.MethodName)) ∈ tables_1 := mem1 78 rfl
theorem w81 : (Jvm.Cond.methodLink "WsClockPagerL6" (47 : Nat) ({ cls := "WsClockPager", name := "store", desc := "(III)I" } : Jvm.MethodName)) ∈ tables_1 := mem1 81 rfl
theorem w82 : (Jvm.Cond.declares ({ cls := "WsClockPager", name := "store", desc := "(III)I" } : Jvm.MethodName)) ∈ tables_1 := mem1 82 rfl
theorem w83 : (Jvm.Cond.instanceMethod ({ cls := "WsClockPager", name := "store", desc := "(III)I" } : Jvm.MethodName)) ∈ tables_1 := mem1 83 rfl
theorem w84 : (Jvm.Cond.selects "WsClockPager" ({ cls := "WsClockPager", name := "store", desc := "(III)I" } : Jvm.MethodName) ({ cls := "WsClockPager", name := "store", desc := "(III)I" } : Jvm.MethodName)) ∈ tables_1 := mem1 84 rfl
theorem w86 : (Jvm.Cond.methodLink "WsClockPager" (94 : Nat) ({ cls := "WsClockPager", name := "check", desc := "(II)I" } : Jvm.MethodName)) ∈ tables_1 := mem1 86 rfl
theorem w87 : (Jvm.Cond.instanceMethod ({ cls := "WsClockPager", name := "check", desc := "(II)I" } : Jvm.MethodName)) ∈ tables_1 := mem1 87 rfl
theorem w88 : (Jvm.Cond.privateMethod ({ cls := "WsClockPager", name := "check", desc := "(II)I" } : Jvm.MethodName)) ∈ tables_1 := mem1 88 rfl
theorem w90 : (Jvm.Cond.methodLink "WsClockPager" (100 : Nat) ({ cls := "WsClockPager", name := "ensureResident", desc := "(II)I" } : Jvm.MethodName)) ∈ tables_1 := mem1 90 rfl
theorem w91 : (Jvm.Cond.instanceMethod ({ cls := "WsClockPager", name := "ensureResident", desc := "(II)I" } : Jvm.MethodName)) ∈ tables_1 := mem1 91 rfl
theorem w92 : (Jvm.Cond.privateMethod ({ cls := "WsClockPager", name := "ensureResident", desc := "(II)I" } : Jvm.MethodName)) ∈ tables_1 := mem1 92 rfl
theorem w94 : (Jvm.Cond.methodLink "WsClockPager" (132 : Nat) ({ cls := "WsClockPager", name := "findFreeFrame", desc := "()I" } : Jvm.MethodName)) ∈ tables_1 := mem1 94 rfl
theorem w95 : (Jvm.Cond.instanceMethod ({ cls := "WsClockPager", name := "findFreeFrame", desc := "()I" } : Jvm.MethodName)) ∈ tables_1 := mem1 95 rfl
theorem w96 : (Jvm.Cond.privateMethod ({ cls := "WsClockPager", name := "findFreeFrame", desc := "()I" } : Jvm.MethodName)) ∈ tables_1 := mem1 96 rfl
theorem w98 : (Jvm.Cond.methodLink "WsClockPager" (141 : Nat) ({ cls := "WsClockPager", name := "fillFrame", desc := "(II)V" } : Jvm.MethodName)) ∈ tables_1 := mem1 98 rfl
theorem w99 : (Jvm.Cond.instanceMethod ({ cls := "WsClockPager", name := "fillFrame", desc := "(II)V" } : Jvm.MethodName)) ∈ tables_1 := mem1 99 rfl
theorem w100 : (Jvm.Cond.privateMethod ({ cls := "WsClockPager", name := "fillFrame", desc := "(II)V" } : Jvm.MethodName)) ∈ tables_1 := mem1 100 rfl
theorem w102 : (Jvm.Cond.methodLink "WsClockPager" (103 : Nat) ({ cls := "WsClockPager", name := "recordReference", desc := "(II)V" } : Jvm.MethodName)) ∈ tables_1 := mem1 102 rfl
theorem w103 : (Jvm.Cond.instanceMethod ({ cls := "WsClockPager", name := "recordReference", desc := "(II)V" } : Jvm.MethodName)) ∈ tables_1 := mem1 103 rfl
theorem w104 : (Jvm.Cond.privateMethod ({ cls := "WsClockPager", name := "recordReference", desc := "(II)V" } : Jvm.MethodName)) ∈ tables_1 := mem1 104 rfl
theorem w106 : (Jvm.Cond.methodLink "WsClockPager" (121 : Nat) ({ cls := "WsClockPager", name := "pushWindow", desc := "(II)V" } : Jvm.MethodName)) ∈ tables_1 := mem1 106 rfl
theorem w107 : (Jvm.Cond.instanceMethod ({ cls := "WsClockPager", name := "pushWindow", desc := "(II)V" } : Jvm.MethodName)) ∈ tables_1 := mem1 107 rfl
theorem w108 : (Jvm.Cond.privateMethod ({ cls := "WsClockPager", name := "pushWindow", desc := "(II)V" } : Jvm.MethodName)) ∈ tables_1 := mem1 108 rfl
theorem w110 : (Jvm.Cond.methodLink "WsClockPager" (107 : Nat) ({ cls := "WsClockPager", name := "loadControl", desc := "(I)V" } : Jvm.MethodName)) ∈ tables_1 := mem1 110 rfl
theorem w111 : (Jvm.Cond.instanceMethod ({ cls := "WsClockPager", name := "loadControl", desc := "(I)V" } : Jvm.MethodName)) ∈ tables_1 := mem1 111 rfl
theorem w112 : (Jvm.Cond.privateMethod ({ cls := "WsClockPager", name := "loadControl", desc := "(I)V" } : Jvm.MethodName)) ∈ tables_1 := mem1 112 rfl
theorem w114 : (Jvm.Cond.methodLink "WsClockPager" (124 : Nat) ({ cls := "WsClockPager", name := "activeTotal", desc := "()I" } : Jvm.MethodName)) ∈ tables_1 := mem1 114 rfl
theorem w115 : (Jvm.Cond.declares ({ cls := "WsClockPager", name := "activeTotal", desc := "()I" } : Jvm.MethodName)) ∈ tables_1 := mem1 115 rfl
theorem w116 : (Jvm.Cond.instanceMethod ({ cls := "WsClockPager", name := "activeTotal", desc := "()I" } : Jvm.MethodName)) ∈ tables_1 := mem1 116 rfl
theorem w117 : (Jvm.Cond.selects "WsClockPager" ({ cls := "WsClockPager", name := "activeTotal", desc := "()I" } : Jvm.MethodName) ({ cls := "WsClockPager", name := "activeTotal", desc := "()I" } : Jvm.MethodName)) ∈ tables_1 := mem1 117 rfl
theorem w119 : (Jvm.Cond.methodLink "WsClockPagerL6" (51 : Nat) ({ cls := "WsClockPager", name := "inWorkingSet", desc := "(II)Z" } : Jvm.MethodName)) ∈ tables_1 := mem1 119 rfl
theorem w120 : (Jvm.Cond.declares ({ cls := "WsClockPager", name := "inWorkingSet", desc := "(II)Z" } : Jvm.MethodName)) ∈ tables_1 := mem1 120 rfl
theorem w121 : (Jvm.Cond.instanceMethod ({ cls := "WsClockPager", name := "inWorkingSet", desc := "(II)Z" } : Jvm.MethodName)) ∈ tables_1 := mem1 121 rfl
theorem w122 : (Jvm.Cond.selects "WsClockPager" ({ cls := "WsClockPager", name := "inWorkingSet", desc := "(II)Z" } : Jvm.MethodName) ({ cls := "WsClockPager", name := "inWorkingSet", desc := "(II)Z" } : Jvm.MethodName)) ∈ tables_1 := mem1 122 rfl
theorem w124 : (Jvm.Cond.methodLink "WsClockPagerL6" (55 : Nat) ({ cls := "WsClockPager", name := "lastStatus", desc := "()I" } : Jvm.MethodName)) ∈ tables_1 := mem1 124 rfl
theorem w125 : (Jvm.Cond.declares ({ cls := "WsClockPager", name := "lastStatus", desc := "()I" } : Jvm.MethodName)) ∈ tables_1 := mem1 125 rfl
theorem w126 : (Jvm.Cond.instanceMethod ({ cls := "WsClockPager", name := "lastStatus", desc := "()I" } : Jvm.MethodName)) ∈ tables_1 := mem1 126 rfl
theorem w127 : (Jvm.Cond.selects "WsClockPager" ({ cls := "WsClockPager", name := "lastStatus", desc := "()I" } : Jvm.MethodName) ({ cls := "WsClockPager", name := "lastStatus", desc := "()I" } : Jvm.MethodName)) ∈ tables_1 := mem1 127 rfl
theorem w129 : (Jvm.Cond.methodLink "WsClockPagerL6" (15 : Nat) ({ cls := "WsClockPager", name := "workingSetSize", desc := "(I)I" } : Jvm.MethodName)) ∈ tables_1 := mem1 129 rfl
theorem w130 : (Jvm.Cond.declares ({ cls := "WsClockPager", name := "workingSetSize", desc := "(I)I" } : Jvm.MethodName)) ∈ tables_1 := mem1 130 rfl
theorem w131 : (Jvm.Cond.instanceMethod ({ cls := "WsClockPager", name := "workingSetSize", desc := "(I)I" } : Jvm.MethodName)) ∈ tables_1 := mem1 131 rfl
theorem w132 : (Jvm.Cond.selects "WsClockPager" ({ cls := "WsClockPager", name := "workingSetSize", desc := "(I)I" } : Jvm.MethodName) ({ cls := "WsClockPager", name := "workingSetSize", desc := "(I)I" } : Jvm.MethodName)) ∈ tables_1 := mem1 132 rfl
theorem w134 : (Jvm.Cond.methodLink "WsClockPagerL6" (59 : Nat) ({ cls := "WsClockPager", name := "activeTotal", desc := "()I" } : Jvm.MethodName)) ∈ tables_1 := mem1 134 rfl
theorem w135 : (Jvm.Cond.methodLink "WsClockPagerL6" (62 : Nat) ({ cls := "WsClockPager", name := "suspensions", desc := "()I" } : Jvm.MethodName)) ∈ tables_1 := mem1 135 rfl
theorem w136 : (Jvm.Cond.declares ({ cls := "WsClockPager", name := "suspensions", desc := "()I" } : Jvm.MethodName)) ∈ tables_1 := mem1 136 rfl
theorem w137 : (Jvm.Cond.instanceMethod ({ cls := "WsClockPager", name := "suspensions", desc := "()I" } : Jvm.MethodName)) ∈ tables_1 := mem1 137 rfl
theorem w138 : (Jvm.Cond.selects "WsClockPager" ({ cls := "WsClockPager", name := "suspensions", desc := "()I" } : Jvm.MethodName) ({ cls := "WsClockPager", name := "suspensions", desc := "()I" } : Jvm.MethodName)) ∈ tables_1 := mem1 138 rfl
theorem w140 : (Jvm.Cond.methodLink "WsClockPagerL6" (65 : Nat) ({ cls := "WsClockPager", name := "readmissions", desc := "()I" } : Jvm.MethodName)) ∈ tables_1 := mem1 140 rfl
theorem w141 : (Jvm.Cond.declares ({ cls := "WsClockPager", name := "readmissions", desc := "()I" } : Jvm.MethodName)) ∈ tables_1 := mem1 141 rfl
theorem w142 : (Jvm.Cond.instanceMethod ({ cls := "WsClockPager", name := "readmissions", desc := "()I" } : Jvm.MethodName)) ∈ tables_1 := mem1 142 rfl
theorem w143 : (Jvm.Cond.selects "WsClockPager" ({ cls := "WsClockPager", name := "readmissions", desc := "()I" } : Jvm.MethodName) ({ cls := "WsClockPager", name := "readmissions", desc := "()I" } : Jvm.MethodName)) ∈ tables_1 := mem1 143 rfl
theorem w145 : (Jvm.Cond.methodLink "WsClockPagerL6" (68 : Nat) ({ cls := "WsClockPagerL6", name := "proc", desc := "(LWsClockPager;IIJ)Z" } : Jvm.MethodName)) ∈ tables_1 := mem1 145 rfl
theorem w146 : (Jvm.Cond.static ({ cls := "WsClockPagerL6", name := "proc", desc := "(LWsClockPager;IIJ)Z" } : Jvm.MethodName)) ∈ tables_1 := mem1 146 rfl
theorem w148 : (Jvm.Cond.constantLong "WsClockPagerL6" (13 : Nat) (15 : Int64)) ∈ tables_1 := mem1 148 rfl
theorem w149 : (Jvm.Cond.methodLink "WsClockPagerL6" (21 : Nat) ({ cls := "WsClockPager", name := "touchedPages", desc := "(I)I" } : Jvm.MethodName)) ∈ tables_1 := mem1 149 rfl
theorem w150 : (Jvm.Cond.declares ({ cls := "WsClockPager", name := "touchedPages", desc := "(I)I" } : Jvm.MethodName)) ∈ tables_1 := mem1 150 rfl
theorem w151 : (Jvm.Cond.instanceMethod ({ cls := "WsClockPager", name := "touchedPages", desc := "(I)I" } : Jvm.MethodName)) ∈ tables_1 := mem1 151 rfl
theorem w152 : (Jvm.Cond.selects "WsClockPager" ({ cls := "WsClockPager", name := "touchedPages", desc := "(I)I" } : Jvm.MethodName) ({ cls := "WsClockPager", name := "touchedPages", desc := "(I)I" } : Jvm.MethodName)) ∈ tables_1 := mem1 152 rfl
theorem w154 : (Jvm.Cond.methodLink "WsClockPagerL6" (24 : Nat) ({ cls := "WsClockPager", name := "virtualTime", desc := "(I)I" } : Jvm.MethodName)) ∈ tables_1 := mem1 154 rfl
theorem w155 : (Jvm.Cond.declares ({ cls := "WsClockPager", name := "virtualTime", desc := "(I)I" } : Jvm.MethodName)) ∈ tables_1 := mem1 155 rfl
theorem w156 : (Jvm.Cond.instanceMethod ({ cls := "WsClockPager", name := "virtualTime", desc := "(I)I" } : Jvm.MethodName)) ∈ tables_1 := mem1 156 rfl
theorem w157 : (Jvm.Cond.selects "WsClockPager" ({ cls := "WsClockPager", name := "virtualTime", desc := "(I)I" } : Jvm.MethodName) ({ cls := "WsClockPager", name := "virtualTime", desc := "(I)I" } : Jvm.MethodName)) ∈ tables_1 := mem1 157 rfl
theorem w159 : (Jvm.Cond.methodLink "WsClockPagerL6" (27 : Nat) ({ cls := "WsClockPager", name := "memorySum", desc := "(I)I" } : Jvm.MethodName)) ∈ tables_1 := mem1 159 rfl
theorem w160 : (Jvm.Cond.declares ({ cls := "WsClockPager", name := "memorySum", desc := "(I)I" } : Jvm.MethodName)) ∈ tables_1 := mem1 160 rfl
theorem w161 : (Jvm.Cond.instanceMethod ({ cls := "WsClockPager", name := "memorySum", desc := "(I)I" } : Jvm.MethodName)) ∈ tables_1 := mem1 161 rfl
theorem w162 : (Jvm.Cond.selects "WsClockPager" ({ cls := "WsClockPager", name := "memorySum", desc := "(I)I" } : Jvm.MethodName) ({ cls := "WsClockPager", name := "memorySum", desc := "(I)I" } : Jvm.MethodName)) ∈ tables_1 := mem1 162 rfl
theorem w164 : (Jvm.Cond.methodLink "WsClockPager" (118 : Nat) ({ cls := "WsClockPager", name := "readWord", desc := "(II)I" } : Jvm.MethodName)) ∈ tables_1 := mem1 164 rfl
theorem w165 : (Jvm.Cond.instanceMethod ({ cls := "WsClockPager", name := "readWord", desc := "(II)I" } : Jvm.MethodName)) ∈ tables_1 := mem1 165 rfl
theorem w166 : (Jvm.Cond.privateMethod ({ cls := "WsClockPager", name := "readWord", desc := "(II)I" } : Jvm.MethodName)) ∈ tables_1 := mem1 166 rfl
theorem w168 : (Jvm.Cond.methodLink "WsClockPagerL6" (41 : Nat) ({ cls := "WsClockPager", name := "load", desc := "(II)J" } : Jvm.MethodName)) ∈ tables_1 := mem1 168 rfl
theorem w169 : (Jvm.Cond.declares ({ cls := "WsClockPager", name := "load", desc := "(II)J" } : Jvm.MethodName)) ∈ tables_1 := mem1 169 rfl
theorem w170 : (Jvm.Cond.instanceMethod ({ cls := "WsClockPager", name := "load", desc := "(II)J" } : Jvm.MethodName)) ∈ tables_1 := mem1 170 rfl
theorem w171 : (Jvm.Cond.selects "WsClockPager" ({ cls := "WsClockPager", name := "load", desc := "(II)J" } : Jvm.MethodName) ({ cls := "WsClockPager", name := "load", desc := "(II)J" } : Jvm.MethodName)) ∈ tables_1 := mem1 171 rfl
theorem w173 : (Jvm.Cond.constantLong "WsClockPagerL6" (45 : Nat) (-9223372036854775808 : Int64)) ∈ tables_1 := mem1 173 rfl
theorem w174 : (Jvm.Cond.constantLong "WsClockPager" (98 : Nat) (-9223372036854775808 : Int64)) ∈ tables_1 := mem1 174 rfl
theorem w175 : (Jvm.Cond.methodLink "WsClockPagerL6" (38 : Nat) ({ cls := "WsClockPager", name := "release", desc := "(I)I" } : Jvm.MethodName)) ∈ tables_1 := mem1 175 rfl
theorem w176 : (Jvm.Cond.declares ({ cls := "WsClockPager", name := "release", desc := "(I)I" } : Jvm.MethodName)) ∈ tables_1 := mem1 176 rfl
theorem w177 : (Jvm.Cond.instanceMethod ({ cls := "WsClockPager", name := "release", desc := "(I)I" } : Jvm.MethodName)) ∈ tables_1 := mem1 177 rfl
theorem w178 : (Jvm.Cond.selects "WsClockPager" ({ cls := "WsClockPager", name := "release", desc := "(I)I" } : Jvm.MethodName) ({ cls := "WsClockPager", name := "release", desc := "(I)I" } : Jvm.MethodName)) ∈ tables_1 := mem1 178 rfl
theorem w180 : (Jvm.Cond.methodLink "WsClockPager" (115 : Nat) ({ cls := "WsClockPager", name := "discardPage", desc := "(I)V" } : Jvm.MethodName)) ∈ tables_1 := mem1 180 rfl
theorem w181 : (Jvm.Cond.instanceMethod ({ cls := "WsClockPager", name := "discardPage", desc := "(I)V" } : Jvm.MethodName)) ∈ tables_1 := mem1 181 rfl
theorem w182 : (Jvm.Cond.privateMethod ({ cls := "WsClockPager", name := "discardPage", desc := "(I)V" } : Jvm.MethodName)) ∈ tables_1 := mem1 182 rfl
theorem w184 : (Jvm.Cond.methodLink "WsClockPager" (135 : Nat) ({ cls := "WsClockPager", name := "chooseVictim", desc := "()I" } : Jvm.MethodName)) ∈ tables_1 := mem1 184 rfl
theorem w185 : (Jvm.Cond.instanceMethod ({ cls := "WsClockPager", name := "chooseVictim", desc := "()I" } : Jvm.MethodName)) ∈ tables_1 := mem1 185 rfl
theorem w186 : (Jvm.Cond.privateMethod ({ cls := "WsClockPager", name := "chooseVictim", desc := "()I" } : Jvm.MethodName)) ∈ tables_1 := mem1 186 rfl
theorem w188 : (Jvm.Cond.methodLink "WsClockPager" (138 : Nat) ({ cls := "WsClockPager", name := "evictFrame", desc := "(I)V" } : Jvm.MethodName)) ∈ tables_1 := mem1 188 rfl
theorem w189 : (Jvm.Cond.instanceMethod ({ cls := "WsClockPager", name := "evictFrame", desc := "(I)V" } : Jvm.MethodName)) ∈ tables_1 := mem1 189 rfl
theorem w190 : (Jvm.Cond.privateMethod ({ cls := "WsClockPager", name := "evictFrame", desc := "(I)V" } : Jvm.MethodName)) ∈ tables_1 := mem1 190 rfl
theorem w192 : (Jvm.Cond.methodLink "WsClockPager" (128 : Nat) ({ cls := "WsClockPager", name := "pickProcessToSuspend", desc := "(I)I" } : Jvm.MethodName)) ∈ tables_1 := mem1 192 rfl
theorem w193 : (Jvm.Cond.instanceMethod ({ cls := "WsClockPager", name := "pickProcessToSuspend", desc := "(I)I" } : Jvm.MethodName)) ∈ tables_1 := mem1 193 rfl
theorem w194 : (Jvm.Cond.privateMethod ({ cls := "WsClockPager", name := "pickProcessToSuspend", desc := "(I)I" } : Jvm.MethodName)) ∈ tables_1 := mem1 194 rfl
theorem w196 : (Jvm.Cond.methodLink "WsClockPager" (144 : Nat) ({ cls := "WsClockPager", name := "writeBack", desc := "(I)V" } : Jvm.MethodName)) ∈ tables_1 := mem1 196 rfl
theorem w197 : (Jvm.Cond.instanceMethod ({ cls := "WsClockPager", name := "writeBack", desc := "(I)V" } : Jvm.MethodName)) ∈ tables_1 := mem1 197 rfl
theorem w198 : (Jvm.Cond.privateMethod ({ cls := "WsClockPager", name := "writeBack", desc := "(I)V" } : Jvm.MethodName)) ∈ tables_1 := mem1 198 rfl
theorem w200 : (Jvm.Cond.methodLink "WsClockPager" (147 : Nat) ({ cls := "WsClockPager", name := "allocSlot", desc := "()I" } : Jvm.MethodName)) ∈ tables_1 := mem1 200 rfl
theorem w201 : (Jvm.Cond.instanceMethod ({ cls := "WsClockPager", name := "allocSlot", desc := "()I" } : Jvm.MethodName)) ∈ tables_1 := mem1 201 rfl
theorem w202 : (Jvm.Cond.privateMethod ({ cls := "WsClockPager", name := "allocSlot", desc := "()I" } : Jvm.MethodName)) ∈ tables_1 := mem1 202 rfl
theorem fS_0 : K.2.1[0]? = some ("procs", "I") := rfl
theorem fS_1 : K.2.1[1]? = some ("pages", "I") := rfl
theorem fS_2 : K.2.1[2]? = some ("frames", "I") := rfl
theorem fS_3 : K.2.1[3]? = some ("tau", "I") := rfl
theorem fS_4 : K.2.1[4]? = some ("status", "I") := rfl
theorem fS_5 : K.2.1[5]? = some ("suspensionCount", "I") := rfl
theorem fS_6 : K.2.1[6]? = some ("readmissionCount", "I") := rfl
theorem fS_7 : K.2.1[7]? = some ("hand", "I") := rfl
theorem fA_0 : K.2.2[0]? = some ("suspended", .boolean, (4 : Int32)) := rfl
theorem fA_1 : K.2.2[1]? = some ("vtime", .int, (4 : Int32)) := rfl
theorem fA_2 : K.2.2[2]? = some ("winLen", .int, (4 : Int32)) := rfl
theorem fA_3 : K.2.2[3]? = some ("winHead", .int, (4 : Int32)) := rfl
theorem fA_4 : K.2.2[4]? = some ("wsSize", .int, (4 : Int32)) := rfl
theorem fA_5 : K.2.2[5]? = some ("touchedCount", .int, (4 : Int32)) := rfl
theorem fA_6 : K.2.2[6]? = some ("ring", .int, (64 : Int32)) := rfl
theorem fA_7 : K.2.2[7]? = some ("winCount", .int, (64 : Int32)) := rfl
theorem fA_8 : K.2.2[8]? = some ("touched", .boolean, (64 : Int32)) := rfl
theorem fA_9 : K.2.2[9]? = some ("pageFrame", .int, (64 : Int32)) := rfl
theorem fA_10 : K.2.2[10]? = some ("pageSlot", .int, (64 : Int32)) := rfl
theorem fA_11 : K.2.2[11]? = some ("pageLastUse", .int, (64 : Int32)) := rfl
theorem fA_12 : K.2.2[12]? = some ("frameOwner", .int, (32 : Int32)) := rfl
theorem fA_13 : K.2.2[13]? = some ("frameRef", .boolean, (32 : Int32)) := rfl
theorem fA_14 : K.2.2[14]? = some ("frameDirty", .boolean, (32 : Int32)) := rfl
theorem fA_15 : K.2.2[15]? = some ("frameWords", .int, (128 : Int32)) := rfl
theorem fA_16 : K.2.2[16]? = some ("slotUsed", .boolean, (64 : Int32)) := rfl
theorem fA_17 : K.2.2[17]? = some ("swapWords", .int, (256 : Int32)) := rfl
theorem cb_6 : (Int8.ofInt 6).toInt32 = (6 : Int32) := by decide
theorem cb_7 : (Int8.ofInt 7).toInt32 = (7 : Int32) := by decide
theorem cb_16 : (Int8.ofInt 16).toInt32 = (16 : Int32) := by decide
theorem cb_32 : (Int8.ofInt 32).toInt32 = (32 : Int32) := by decide
theorem cb_64 : (Int8.ofInt 64).toInt32 = (64 : Int32) := by decide
theorem cb_66 : (Int8.ofInt 66).toInt32 = (66 : Int32) := by decide
theorem ci_m1 : Int32.ofInt (-1) = (-1 : Int32) := by decide
theorem ci_0 : Int32.ofInt 0 = (0 : Int32) := by decide
theorem ci_1 : Int32.ofInt 1 = (1 : Int32) := by decide
theorem ci_2 : Int32.ofInt 2 = (2 : Int32) := by decide
theorem ci_3 : Int32.ofInt 3 = (3 : Int32) := by decide
theorem ci_4 : Int32.ofInt 4 = (4 : Int32) := by decide
theorem ci_5 : Int32.ofInt 5 = (5 : Int32) := by decide
theorem cl_0 : Int64.ofNat (0 : Fin 2) = (0 : Int64) := by decide
theorem cl_1 : Int64.ofNat (1 : Fin 2) = (1 : Int64) := by decide
theorem cs_128 : (Int16.ofInt 128).toInt32 = (128 : Int32) := by decide
theorem cs_256 : (Int16.ofInt 256).toInt32 = (256 : Int32) := by decide
def B2 : Bdy := ((⟨"WsClockPager", "clamp", "(III)I"⟩ : MethodName), prog_1_method_16_code, 4, (some .int), ({ frames := 0, cells := 0, slots := 0, locals := 0 } : Room))
theorem d2_0 : DAt B2 0 (.iload_n 1) 1 1 := ⟨by decide +kernel, rfl⟩
theorem d2_1 : DAt B2 1 (.iload_n 2) 1 2 := ⟨by decide +kernel, rfl⟩
theorem d2_2 : DAt B2 2 (.if_icmp .ge 5) 3 5 := ⟨by decide +kernel, rfl⟩
theorem d2_5 : DAt B2 5 (.iload_n 2) 1 6 := ⟨by decide +kernel, rfl⟩
theorem d2_6 : DAt B2 6 (.ireturn) 1 7 := ⟨by decide +kernel, rfl⟩
theorem d2_7 : DAt B2 7 (.iload_n 1) 1 8 := ⟨by decide +kernel, rfl⟩
theorem d2_8 : DAt B2 8 (.iload_n 3) 1 9 := ⟨by decide +kernel, rfl⟩
theorem d2_9 : DAt B2 9 (.if_icmp .le 5) 3 12 := ⟨by decide +kernel, rfl⟩
theorem d2_12 : DAt B2 12 (.iload_n 3) 1 13 := ⟨by decide +kernel, rfl⟩
theorem d2_13 : DAt B2 13 (.ireturn) 1 14 := ⟨by decide +kernel, rfl⟩
theorem d2_14 : DAt B2 14 (.iload_n 1) 1 15 := ⟨by decide +kernel, rfl⟩
theorem d2_15 : DAt B2 15 (.ireturn) 1 16 := ⟨by decide +kernel, rfl⟩
def B1 : Bdy := ((⟨"WsClockPager", "<init>", "(IIII)V"⟩ : MethodName), prog_1_method_1_code, 6, none, ({ frames := 1, cells := 18, slots := 952, locals := 16 } : Room))
theorem d1_0 : DAt B1 0 (.aload_n 0) 1 1 := ⟨by decide +kernel, rfl⟩
theorem d1_1 : DAt B1 1 (.invokespecial 1) 3 4 := ⟨by decide +kernel, rfl⟩
theorem d1_4 : DAt B1 4 (.aload_n 0) 1 5 := ⟨by decide +kernel, rfl⟩
theorem d1_5 : DAt B1 5 (.iconst 4) 1 6 := ⟨by decide +kernel, rfl⟩
theorem d1_6 : DAt B1 6 (.newarray .boolean) 2 8 := ⟨by decide +kernel, rfl⟩
theorem d1_8 : DAt B1 8 (.putfield 7) 3 11 := ⟨by decide +kernel, rfl⟩
theorem d1_11 : DAt B1 11 (.aload_n 0) 1 12 := ⟨by decide +kernel, rfl⟩
theorem d1_12 : DAt B1 12 (.iconst 4) 1 13 := ⟨by decide +kernel, rfl⟩
theorem d1_13 : DAt B1 13 (.newarray .int) 2 15 := ⟨by decide +kernel, rfl⟩
theorem d1_15 : DAt B1 15 (.putfield 13) 3 18 := ⟨by decide +kernel, rfl⟩
theorem d1_18 : DAt B1 18 (.aload_n 0) 1 19 := ⟨by decide +kernel, rfl⟩
theorem d1_19 : DAt B1 19 (.iconst 4) 1 20 := ⟨by decide +kernel, rfl⟩
theorem d1_20 : DAt B1 20 (.newarray .int) 2 22 := ⟨by decide +kernel, rfl⟩
theorem d1_22 : DAt B1 22 (.putfield 17) 3 25 := ⟨by decide +kernel, rfl⟩
theorem d1_25 : DAt B1 25 (.aload_n 0) 1 26 := ⟨by decide +kernel, rfl⟩
theorem d1_26 : DAt B1 26 (.iconst 4) 1 27 := ⟨by decide +kernel, rfl⟩
theorem d1_27 : DAt B1 27 (.newarray .int) 2 29 := ⟨by decide +kernel, rfl⟩
theorem d1_29 : DAt B1 29 (.putfield 20) 3 32 := ⟨by decide +kernel, rfl⟩
theorem d1_32 : DAt B1 32 (.aload_n 0) 1 33 := ⟨by decide +kernel, rfl⟩
theorem d1_33 : DAt B1 33 (.iconst 4) 1 34 := ⟨by decide +kernel, rfl⟩
theorem d1_34 : DAt B1 34 (.newarray .int) 2 36 := ⟨by decide +kernel, rfl⟩
theorem d1_36 : DAt B1 36 (.putfield 23) 3 39 := ⟨by decide +kernel, rfl⟩
theorem d1_39 : DAt B1 39 (.aload_n 0) 1 40 := ⟨by decide +kernel, rfl⟩
theorem d1_40 : DAt B1 40 (.iconst 4) 1 41 := ⟨by decide +kernel, rfl⟩
theorem d1_41 : DAt B1 41 (.newarray .int) 2 43 := ⟨by decide +kernel, rfl⟩
theorem d1_43 : DAt B1 43 (.putfield 26) 3 46 := ⟨by decide +kernel, rfl⟩
theorem d1_46 : DAt B1 46 (.aload_n 0) 1 47 := ⟨by decide +kernel, rfl⟩
theorem d1_47 : DAt B1 47 (.bipush 64) 2 49 := ⟨by decide +kernel, rfl⟩
theorem d1_49 : DAt B1 49 (.newarray .int) 2 51 := ⟨by decide +kernel, rfl⟩
theorem d1_51 : DAt B1 51 (.putfield 29) 3 54 := ⟨by decide +kernel, rfl⟩
theorem d1_54 : DAt B1 54 (.aload_n 0) 1 55 := ⟨by decide +kernel, rfl⟩
theorem d1_55 : DAt B1 55 (.bipush 64) 2 57 := ⟨by decide +kernel, rfl⟩
theorem d1_57 : DAt B1 57 (.newarray .int) 2 59 := ⟨by decide +kernel, rfl⟩
theorem d1_59 : DAt B1 59 (.putfield 32) 3 62 := ⟨by decide +kernel, rfl⟩
theorem d1_62 : DAt B1 62 (.aload_n 0) 1 63 := ⟨by decide +kernel, rfl⟩
theorem d1_63 : DAt B1 63 (.bipush 64) 2 65 := ⟨by decide +kernel, rfl⟩
theorem d1_65 : DAt B1 65 (.newarray .boolean) 2 67 := ⟨by decide +kernel, rfl⟩
theorem d1_67 : DAt B1 67 (.putfield 35) 3 70 := ⟨by decide +kernel, rfl⟩
theorem d1_70 : DAt B1 70 (.aload_n 0) 1 71 := ⟨by decide +kernel, rfl⟩
theorem d1_71 : DAt B1 71 (.bipush 64) 2 73 := ⟨by decide +kernel, rfl⟩
theorem d1_73 : DAt B1 73 (.newarray .int) 2 75 := ⟨by decide +kernel, rfl⟩
theorem d1_75 : DAt B1 75 (.putfield 38) 3 78 := ⟨by decide +kernel, rfl⟩
theorem d1_78 : DAt B1 78 (.aload_n 0) 1 79 := ⟨by decide +kernel, rfl⟩
theorem d1_79 : DAt B1 79 (.bipush 64) 2 81 := ⟨by decide +kernel, rfl⟩
theorem d1_81 : DAt B1 81 (.newarray .int) 2 83 := ⟨by decide +kernel, rfl⟩
theorem d1_83 : DAt B1 83 (.putfield 41) 3 86 := ⟨by decide +kernel, rfl⟩
theorem d1_86 : DAt B1 86 (.aload_n 0) 1 87 := ⟨by decide +kernel, rfl⟩
theorem d1_87 : DAt B1 87 (.bipush 64) 2 89 := ⟨by decide +kernel, rfl⟩
theorem d1_89 : DAt B1 89 (.newarray .int) 2 91 := ⟨by decide +kernel, rfl⟩
theorem d1_91 : DAt B1 91 (.putfield 44) 3 94 := ⟨by decide +kernel, rfl⟩
theorem d1_94 : DAt B1 94 (.aload_n 0) 1 95 := ⟨by decide +kernel, rfl⟩
theorem d1_95 : DAt B1 95 (.bipush 32) 2 97 := ⟨by decide +kernel, rfl⟩
theorem d1_97 : DAt B1 97 (.newarray .int) 2 99 := ⟨by decide +kernel, rfl⟩
theorem d1_99 : DAt B1 99 (.putfield 47) 3 102 := ⟨by decide +kernel, rfl⟩
theorem d1_102 : DAt B1 102 (.aload_n 0) 1 103 := ⟨by decide +kernel, rfl⟩
theorem d1_103 : DAt B1 103 (.bipush 32) 2 105 := ⟨by decide +kernel, rfl⟩
theorem d1_105 : DAt B1 105 (.newarray .boolean) 2 107 := ⟨by decide +kernel, rfl⟩
theorem d1_107 : DAt B1 107 (.putfield 50) 3 110 := ⟨by decide +kernel, rfl⟩
theorem d1_110 : DAt B1 110 (.aload_n 0) 1 111 := ⟨by decide +kernel, rfl⟩
theorem d1_111 : DAt B1 111 (.bipush 32) 2 113 := ⟨by decide +kernel, rfl⟩
theorem d1_113 : DAt B1 113 (.newarray .boolean) 2 115 := ⟨by decide +kernel, rfl⟩
theorem d1_115 : DAt B1 115 (.putfield 53) 3 118 := ⟨by decide +kernel, rfl⟩
theorem d1_118 : DAt B1 118 (.aload_n 0) 1 119 := ⟨by decide +kernel, rfl⟩
theorem d1_119 : DAt B1 119 (.sipush 128) 3 122 := ⟨by decide +kernel, rfl⟩
theorem d1_122 : DAt B1 122 (.newarray .int) 2 124 := ⟨by decide +kernel, rfl⟩
theorem d1_124 : DAt B1 124 (.putfield 56) 3 127 := ⟨by decide +kernel, rfl⟩
theorem d1_127 : DAt B1 127 (.aload_n 0) 1 128 := ⟨by decide +kernel, rfl⟩
theorem d1_128 : DAt B1 128 (.bipush 64) 2 130 := ⟨by decide +kernel, rfl⟩
theorem d1_130 : DAt B1 130 (.newarray .boolean) 2 132 := ⟨by decide +kernel, rfl⟩
theorem d1_132 : DAt B1 132 (.putfield 59) 3 135 := ⟨by decide +kernel, rfl⟩
theorem d1_135 : DAt B1 135 (.aload_n 0) 1 136 := ⟨by decide +kernel, rfl⟩
theorem d1_136 : DAt B1 136 (.sipush 256) 3 139 := ⟨by decide +kernel, rfl⟩
theorem d1_139 : DAt B1 139 (.newarray .int) 2 141 := ⟨by decide +kernel, rfl⟩
theorem d1_141 : DAt B1 141 (.putfield 62) 3 144 := ⟨by decide +kernel, rfl⟩
theorem d1_144 : DAt B1 144 (.aload_n 0) 1 145 := ⟨by decide +kernel, rfl⟩
theorem d1_145 : DAt B1 145 (.aload_n 0) 1 146 := ⟨by decide +kernel, rfl⟩
theorem d1_146 : DAt B1 146 (.iload_n 1) 1 147 := ⟨by decide +kernel, rfl⟩
theorem d1_147 : DAt B1 147 (.iconst 1) 1 148 := ⟨by decide +kernel, rfl⟩
theorem d1_148 : DAt B1 148 (.iconst 4) 1 149 := ⟨by decide +kernel, rfl⟩
theorem d1_149 : DAt B1 149 (.invokevirtual 65) 3 152 := ⟨by decide +kernel, rfl⟩
theorem d1_152 : DAt B1 152 (.putfield 69) 3 155 := ⟨by decide +kernel, rfl⟩
theorem d1_155 : DAt B1 155 (.aload_n 0) 1 156 := ⟨by decide +kernel, rfl⟩
theorem d1_156 : DAt B1 156 (.aload_n 0) 1 157 := ⟨by decide +kernel, rfl⟩
theorem d1_157 : DAt B1 157 (.iload_n 2) 1 158 := ⟨by decide +kernel, rfl⟩
theorem d1_158 : DAt B1 158 (.iconst 4) 1 159 := ⟨by decide +kernel, rfl⟩
theorem d1_159 : DAt B1 159 (.bipush 16) 2 161 := ⟨by decide +kernel, rfl⟩
theorem d1_161 : DAt B1 161 (.invokevirtual 65) 3 164 := ⟨by decide +kernel, rfl⟩
theorem d1_164 : DAt B1 164 (.putfield 73) 3 167 := ⟨by decide +kernel, rfl⟩
theorem d1_167 : DAt B1 167 (.aload_n 0) 1 168 := ⟨by decide +kernel, rfl⟩
theorem d1_168 : DAt B1 168 (.aload_n 0) 1 169 := ⟨by decide +kernel, rfl⟩
theorem d1_169 : DAt B1 169 (.iload_n 3) 1 170 := ⟨by decide +kernel, rfl⟩
theorem d1_170 : DAt B1 170 (.iconst 4) 1 171 := ⟨by decide +kernel, rfl⟩
theorem d1_171 : DAt B1 171 (.bipush 32) 2 173 := ⟨by decide +kernel, rfl⟩
theorem d1_173 : DAt B1 173 (.invokevirtual 65) 3 176 := ⟨by decide +kernel, rfl⟩
theorem d1_176 : DAt B1 176 (.putfield 76) 3 179 := ⟨by decide +kernel, rfl⟩
theorem d1_179 : DAt B1 179 (.aload_n 0) 1 180 := ⟨by decide +kernel, rfl⟩
theorem d1_180 : DAt B1 180 (.aload_n 0) 1 181 := ⟨by decide +kernel, rfl⟩
theorem d1_181 : DAt B1 181 (.iload 4) 2 183 := ⟨by decide +kernel, rfl⟩
theorem d1_183 : DAt B1 183 (.iconst 1) 1 184 := ⟨by decide +kernel, rfl⟩
theorem d1_184 : DAt B1 184 (.bipush 16) 2 186 := ⟨by decide +kernel, rfl⟩
theorem d1_186 : DAt B1 186 (.invokevirtual 65) 3 189 := ⟨by decide +kernel, rfl⟩
theorem d1_189 : DAt B1 189 (.putfield 79) 3 192 := ⟨by decide +kernel, rfl⟩
theorem d1_192 : DAt B1 192 (.aload_n 0) 1 193 := ⟨by decide +kernel, rfl⟩
theorem d1_193 : DAt B1 193 (.iconst 0) 1 194 := ⟨by decide +kernel, rfl⟩
theorem d1_194 : DAt B1 194 (.putfield 82) 3 197 := ⟨by decide +kernel, rfl⟩
theorem d1_197 : DAt B1 197 (.aload_n 0) 1 198 := ⟨by decide +kernel, rfl⟩
theorem d1_198 : DAt B1 198 (.iconst 0) 1 199 := ⟨by decide +kernel, rfl⟩
theorem d1_199 : DAt B1 199 (.putfield 85) 3 202 := ⟨by decide +kernel, rfl⟩
theorem d1_202 : DAt B1 202 (.aload_n 0) 1 203 := ⟨by decide +kernel, rfl⟩
theorem d1_203 : DAt B1 203 (.iconst 0) 1 204 := ⟨by decide +kernel, rfl⟩
theorem d1_204 : DAt B1 204 (.putfield 88) 3 207 := ⟨by decide +kernel, rfl⟩
theorem d1_207 : DAt B1 207 (.aload_n 0) 1 208 := ⟨by decide +kernel, rfl⟩
theorem d1_208 : DAt B1 208 (.iconst 0) 1 209 := ⟨by decide +kernel, rfl⟩
theorem d1_209 : DAt B1 209 (.putfield 91) 3 212 := ⟨by decide +kernel, rfl⟩
theorem d1_212 : DAt B1 212 (.iconst 0) 1 213 := ⟨by decide +kernel, rfl⟩
theorem d1_213 : DAt B1 213 (.istore 5) 2 215 := ⟨by decide +kernel, rfl⟩
theorem d1_215 : DAt B1 215 (.iload 5) 2 217 := ⟨by decide +kernel, rfl⟩
theorem d1_217 : DAt B1 217 (.bipush 64) 2 219 := ⟨by decide +kernel, rfl⟩
theorem d1_219 : DAt B1 219 (.if_icmp .ge 25) 3 222 := ⟨by decide +kernel, rfl⟩
theorem d1_222 : DAt B1 222 (.aload_n 0) 1 223 := ⟨by decide +kernel, rfl⟩
theorem d1_223 : DAt B1 223 (.getfield 38) 3 226 := ⟨by decide +kernel, rfl⟩
theorem d1_226 : DAt B1 226 (.iload 5) 2 228 := ⟨by decide +kernel, rfl⟩
theorem d1_228 : DAt B1 228 (.iconst (-1)) 1 229 := ⟨by decide +kernel, rfl⟩
theorem d1_229 : DAt B1 229 (.iastore) 1 230 := ⟨by decide +kernel, rfl⟩
theorem d1_230 : DAt B1 230 (.aload_n 0) 1 231 := ⟨by decide +kernel, rfl⟩
theorem d1_231 : DAt B1 231 (.getfield 41) 3 234 := ⟨by decide +kernel, rfl⟩
theorem d1_234 : DAt B1 234 (.iload 5) 2 236 := ⟨by decide +kernel, rfl⟩
theorem d1_236 : DAt B1 236 (.iconst (-1)) 1 237 := ⟨by decide +kernel, rfl⟩
theorem d1_237 : DAt B1 237 (.iastore) 1 238 := ⟨by decide +kernel, rfl⟩
theorem d1_238 : DAt B1 238 (.iinc 5 1) 3 241 := ⟨by decide +kernel, rfl⟩
theorem d1_241 : DAt B1 241 (.goto (-26)) 3 244 := ⟨by decide +kernel, rfl⟩
theorem d1_244 : DAt B1 244 (.iconst 0) 1 245 := ⟨by decide +kernel, rfl⟩
theorem d1_245 : DAt B1 245 (.istore 5) 2 247 := ⟨by decide +kernel, rfl⟩
theorem d1_247 : DAt B1 247 (.iload 5) 2 249 := ⟨by decide +kernel, rfl⟩
theorem d1_249 : DAt B1 249 (.bipush 32) 2 251 := ⟨by decide +kernel, rfl⟩
theorem d1_251 : DAt B1 251 (.if_icmp .ge 17) 3 254 := ⟨by decide +kernel, rfl⟩
theorem d1_254 : DAt B1 254 (.aload_n 0) 1 255 := ⟨by decide +kernel, rfl⟩
theorem d1_255 : DAt B1 255 (.getfield 47) 3 258 := ⟨by decide +kernel, rfl⟩
theorem d1_258 : DAt B1 258 (.iload 5) 2 260 := ⟨by decide +kernel, rfl⟩
theorem d1_260 : DAt B1 260 (.iconst (-1)) 1 261 := ⟨by decide +kernel, rfl⟩
theorem d1_261 : DAt B1 261 (.iastore) 1 262 := ⟨by decide +kernel, rfl⟩
theorem d1_262 : DAt B1 262 (.iinc 5 1) 3 265 := ⟨by decide +kernel, rfl⟩
theorem d1_265 : DAt B1 265 (.goto (-18)) 3 268 := ⟨by decide +kernel, rfl⟩
theorem d1_268 : DAt B1 268 (.return_) 1 269 := ⟨by decide +kernel, rfl⟩
def B4 : Bdy := ((⟨"WsClockPager", "validPid", "(I)Z"⟩ : MethodName), prog_1_method_17_code, 2, (some .boolean), ({ frames := 0, cells := 0, slots := 0, locals := 0 } : Room))
theorem d4_0 : DAt B4 0 (.iload_n 1) 1 1 := ⟨by decide +kernel, rfl⟩
theorem d4_1 : DAt B4 1 (.ifCond .lt 15) 3 4 := ⟨by decide +kernel, rfl⟩
theorem d4_4 : DAt B4 4 (.iload_n 1) 1 5 := ⟨by decide +kernel, rfl⟩
theorem d4_5 : DAt B4 5 (.aload_n 0) 1 6 := ⟨by decide +kernel, rfl⟩
theorem d4_6 : DAt B4 6 (.getfield 69) 3 9 := ⟨by decide +kernel, rfl⟩
theorem d4_9 : DAt B4 9 (.if_icmp .ge 7) 3 12 := ⟨by decide +kernel, rfl⟩
theorem d4_12 : DAt B4 12 (.iconst 1) 1 13 := ⟨by decide +kernel, rfl⟩
theorem d4_13 : DAt B4 13 (.goto 4) 3 16 := ⟨by decide +kernel, rfl⟩
theorem d4_16 : DAt B4 16 (.iconst 0) 1 17 := ⟨by decide +kernel, rfl⟩
theorem d4_17 : DAt B4 17 (.ireturn) 1 18 := ⟨by decide +kernel, rfl⟩
def B3 : Bdy := ((⟨"WsClockPager", "isSuspended", "(I)Z"⟩ : MethodName), prog_1_method_6_code, 2, (some .boolean), ({ frames := 1, cells := 0, slots := 0, locals := 13 } : Room))
theorem d3_0 : DAt B3 0 (.aload_n 0) 1 1 := ⟨by decide +kernel, rfl⟩
theorem d3_1 : DAt B3 1 (.iload_n 1) 1 2 := ⟨by decide +kernel, rfl⟩
theorem d3_2 : DAt B3 2 (.invokevirtual 111) 3 5 := ⟨by decide +kernel, rfl⟩
theorem d3_5 : DAt B3 5 (.ifCond .ne 5) 3 8 := ⟨by decide +kernel, rfl⟩
theorem d3_8 : DAt B3 8 (.iconst 0) 1 9 := ⟨by decide +kernel, rfl⟩
theorem d3_9 : DAt B3 9 (.ireturn) 1 10 := ⟨by decide +kernel, rfl⟩
theorem d3_10 : DAt B3 10 (.aload_n 0) 1 11 := ⟨by decide +kernel, rfl⟩
theorem d3_11 : DAt B3 11 (.getfield 7) 3 14 := ⟨by decide +kernel, rfl⟩
theorem d3_14 : DAt B3 14 (.iload_n 1) 1 15 := ⟨by decide +kernel, rfl⟩
theorem d3_15 : DAt B3 15 (.baload) 1 16 := ⟨by decide +kernel, rfl⟩
theorem d3_16 : DAt B3 16 (.ireturn) 1 17 := ⟨by decide +kernel, rfl⟩
def B27 : Bdy := ((⟨"WsClockPager", "discardPage", "(I)V"⟩ : MethodName), prog_1_method_20_code, 4, none, ({ frames := 0, cells := 0, slots := 0, locals := 0 } : Room))
theorem d27_0 : DAt B27 0 (.aload_n 0) 1 1 := ⟨by decide +kernel, rfl⟩
theorem d27_1 : DAt B27 1 (.getfield 38) 3 4 := ⟨by decide +kernel, rfl⟩
theorem d27_4 : DAt B27 4 (.iload_n 1) 1 5 := ⟨by decide +kernel, rfl⟩
theorem d27_5 : DAt B27 5 (.iaload) 1 6 := ⟨by decide +kernel, rfl⟩
theorem d27_6 : DAt B27 6 (.istore_n 2) 1 7 := ⟨by decide +kernel, rfl⟩
theorem d27_7 : DAt B27 7 (.iload_n 2) 1 8 := ⟨by decide +kernel, rfl⟩
theorem d27_8 : DAt B27 8 (.ifCond .lt 31) 3 11 := ⟨by decide +kernel, rfl⟩
theorem d27_11 : DAt B27 11 (.aload_n 0) 1 12 := ⟨by decide +kernel, rfl⟩
theorem d27_12 : DAt B27 12 (.getfield 47) 3 15 := ⟨by decide +kernel, rfl⟩
theorem d27_15 : DAt B27 15 (.iload_n 2) 1 16 := ⟨by decide +kernel, rfl⟩
theorem d27_16 : DAt B27 16 (.iconst (-1)) 1 17 := ⟨by decide +kernel, rfl⟩
theorem d27_17 : DAt B27 17 (.iastore) 1 18 := ⟨by decide +kernel, rfl⟩
theorem d27_18 : DAt B27 18 (.aload_n 0) 1 19 := ⟨by decide +kernel, rfl⟩
theorem d27_19 : DAt B27 19 (.getfield 50) 3 22 := ⟨by decide +kernel, rfl⟩
theorem d27_22 : DAt B27 22 (.iload_n 2) 1 23 := ⟨by decide +kernel, rfl⟩
theorem d27_23 : DAt B27 23 (.iconst 0) 1 24 := ⟨by decide +kernel, rfl⟩
theorem d27_24 : DAt B27 24 (.bastore) 1 25 := ⟨by decide +kernel, rfl⟩
theorem d27_25 : DAt B27 25 (.aload_n 0) 1 26 := ⟨by decide +kernel, rfl⟩
theorem d27_26 : DAt B27 26 (.getfield 53) 3 29 := ⟨by decide +kernel, rfl⟩
theorem d27_29 : DAt B27 29 (.iload_n 2) 1 30 := ⟨by decide +kernel, rfl⟩
theorem d27_30 : DAt B27 30 (.iconst 0) 1 31 := ⟨by decide +kernel, rfl⟩
theorem d27_31 : DAt B27 31 (.bastore) 1 32 := ⟨by decide +kernel, rfl⟩
theorem d27_32 : DAt B27 32 (.aload_n 0) 1 33 := ⟨by decide +kernel, rfl⟩
theorem d27_33 : DAt B27 33 (.getfield 38) 3 36 := ⟨by decide +kernel, rfl⟩
theorem d27_36 : DAt B27 36 (.iload_n 1) 1 37 := ⟨by decide +kernel, rfl⟩
theorem d27_37 : DAt B27 37 (.iconst (-1)) 1 38 := ⟨by decide +kernel, rfl⟩
theorem d27_38 : DAt B27 38 (.iastore) 1 39 := ⟨by decide +kernel, rfl⟩
theorem d27_39 : DAt B27 39 (.aload_n 0) 1 40 := ⟨by decide +kernel, rfl⟩
theorem d27_40 : DAt B27 40 (.getfield 41) 3 43 := ⟨by decide +kernel, rfl⟩
theorem d27_43 : DAt B27 43 (.iload_n 1) 1 44 := ⟨by decide +kernel, rfl⟩
theorem d27_44 : DAt B27 44 (.iaload) 1 45 := ⟨by decide +kernel, rfl⟩
theorem d27_45 : DAt B27 45 (.istore_n 3) 1 46 := ⟨by decide +kernel, rfl⟩
theorem d27_46 : DAt B27 46 (.iload_n 3) 1 47 := ⟨by decide +kernel, rfl⟩
theorem d27_47 : DAt B27 47 (.ifCond .lt 17) 3 50 := ⟨by decide +kernel, rfl⟩
theorem d27_50 : DAt B27 50 (.aload_n 0) 1 51 := ⟨by decide +kernel, rfl⟩
theorem d27_51 : DAt B27 51 (.getfield 59) 3 54 := ⟨by decide +kernel, rfl⟩
theorem d27_54 : DAt B27 54 (.iload_n 3) 1 55 := ⟨by decide +kernel, rfl⟩
theorem d27_55 : DAt B27 55 (.iconst 0) 1 56 := ⟨by decide +kernel, rfl⟩
theorem d27_56 : DAt B27 56 (.bastore) 1 57 := ⟨by decide +kernel, rfl⟩
theorem d27_57 : DAt B27 57 (.aload_n 0) 1 58 := ⟨by decide +kernel, rfl⟩
theorem d27_58 : DAt B27 58 (.getfield 41) 3 61 := ⟨by decide +kernel, rfl⟩
theorem d27_61 : DAt B27 61 (.iload_n 1) 1 62 := ⟨by decide +kernel, rfl⟩
theorem d27_62 : DAt B27 62 (.iconst (-1)) 1 63 := ⟨by decide +kernel, rfl⟩
theorem d27_63 : DAt B27 63 (.iastore) 1 64 := ⟨by decide +kernel, rfl⟩
theorem d27_64 : DAt B27 64 (.aload_n 0) 1 65 := ⟨by decide +kernel, rfl⟩
theorem d27_65 : DAt B27 65 (.getfield 32) 3 68 := ⟨by decide +kernel, rfl⟩
theorem d27_68 : DAt B27 68 (.iload_n 1) 1 69 := ⟨by decide +kernel, rfl⟩
theorem d27_69 : DAt B27 69 (.iconst 0) 1 70 := ⟨by decide +kernel, rfl⟩
theorem d27_70 : DAt B27 70 (.iastore) 1 71 := ⟨by decide +kernel, rfl⟩
theorem d27_71 : DAt B27 71 (.aload_n 0) 1 72 := ⟨by decide +kernel, rfl⟩
theorem d27_72 : DAt B27 72 (.getfield 35) 3 75 := ⟨by decide +kernel, rfl⟩
theorem d27_75 : DAt B27 75 (.iload_n 1) 1 76 := ⟨by decide +kernel, rfl⟩
theorem d27_76 : DAt B27 76 (.iconst 0) 1 77 := ⟨by decide +kernel, rfl⟩
theorem d27_77 : DAt B27 77 (.bastore) 1 78 := ⟨by decide +kernel, rfl⟩
theorem d27_78 : DAt B27 78 (.aload_n 0) 1 79 := ⟨by decide +kernel, rfl⟩
theorem d27_79 : DAt B27 79 (.getfield 44) 3 82 := ⟨by decide +kernel, rfl⟩
theorem d27_82 : DAt B27 82 (.iload_n 1) 1 83 := ⟨by decide +kernel, rfl⟩
theorem d27_83 : DAt B27 83 (.iconst 0) 1 84 := ⟨by decide +kernel, rfl⟩
theorem d27_84 : DAt B27 84 (.iastore) 1 85 := ⟨by decide +kernel, rfl⟩
theorem d27_85 : DAt B27 85 (.return_) 1 86 := ⟨by decide +kernel, rfl⟩
def B14 : Bdy := ((⟨"WsClockPager", "activeTotal", "()I"⟩ : MethodName), prog_1_method_10_code, 3, (some .int), ({ frames := 0, cells := 0, slots := 0, locals := 0 } : Room))
theorem d14_0 : DAt B14 0 (.iconst 0) 1 1 := ⟨by decide +kernel, rfl⟩
theorem d14_1 : DAt B14 1 (.istore_n 1) 1 2 := ⟨by decide +kernel, rfl⟩
theorem d14_2 : DAt B14 2 (.iconst 0) 1 3 := ⟨by decide +kernel, rfl⟩
theorem d14_3 : DAt B14 3 (.istore_n 2) 1 4 := ⟨by decide +kernel, rfl⟩
theorem d14_4 : DAt B14 4 (.iload_n 2) 1 5 := ⟨by decide +kernel, rfl⟩
theorem d14_5 : DAt B14 5 (.aload_n 0) 1 6 := ⟨by decide +kernel, rfl⟩
theorem d14_6 : DAt B14 6 (.getfield 69) 3 9 := ⟨by decide +kernel, rfl⟩
theorem d14_9 : DAt B14 9 (.if_icmp .ge 27) 3 12 := ⟨by decide +kernel, rfl⟩
theorem d14_12 : DAt B14 12 (.aload_n 0) 1 13 := ⟨by decide +kernel, rfl⟩
theorem d14_13 : DAt B14 13 (.getfield 7) 3 16 := ⟨by decide +kernel, rfl⟩
theorem d14_16 : DAt B14 16 (.iload_n 2) 1 17 := ⟨by decide +kernel, rfl⟩
theorem d14_17 : DAt B14 17 (.baload) 1 18 := ⟨by decide +kernel, rfl⟩
theorem d14_18 : DAt B14 18 (.ifCond .ne 12) 3 21 := ⟨by decide +kernel, rfl⟩
theorem d14_21 : DAt B14 21 (.iload_n 1) 1 22 := ⟨by decide +kernel, rfl⟩
theorem d14_22 : DAt B14 22 (.aload_n 0) 1 23 := ⟨by decide +kernel, rfl⟩
theorem d14_23 : DAt B14 23 (.getfield 23) 3 26 := ⟨by decide +kernel, rfl⟩
theorem d14_26 : DAt B14 26 (.iload_n 2) 1 27 := ⟨by decide +kernel, rfl⟩
theorem d14_27 : DAt B14 27 (.iaload) 1 28 := ⟨by decide +kernel, rfl⟩
theorem d14_28 : DAt B14 28 (.iadd) 1 29 := ⟨by decide +kernel, rfl⟩
theorem d14_29 : DAt B14 29 (.istore_n 1) 1 30 := ⟨by decide +kernel, rfl⟩
theorem d14_30 : DAt B14 30 (.iinc 2 1) 3 33 := ⟨by decide +kernel, rfl⟩
theorem d14_33 : DAt B14 33 (.goto (-29)) 3 36 := ⟨by decide +kernel, rfl⟩
theorem d14_36 : DAt B14 36 (.iload_n 1) 1 37 := ⟨by decide +kernel, rfl⟩
theorem d14_37 : DAt B14 37 (.ireturn) 1 38 := ⟨by decide +kernel, rfl⟩
def B30 : Bdy := ((⟨"WsClockPager", "pickProcessToSuspend", "(I)I"⟩ : MethodName), prog_1_method_24_code, 3, (some .int), ({ frames := 0, cells := 0, slots := 0, locals := 0 } : Room))
theorem d30_0 : DAt B30 0 (.aload_n 0) 1 1 := ⟨by decide +kernel, rfl⟩
theorem d30_1 : DAt B30 1 (.getfield 69) 3 4 := ⟨by decide +kernel, rfl⟩
theorem d30_4 : DAt B30 4 (.iconst 1) 1 5 := ⟨by decide +kernel, rfl⟩
theorem d30_5 : DAt B30 5 (.isub) 1 6 := ⟨by decide +kernel, rfl⟩
theorem d30_6 : DAt B30 6 (.istore_n 2) 1 7 := ⟨by decide +kernel, rfl⟩
theorem d30_7 : DAt B30 7 (.iload_n 2) 1 8 := ⟨by decide +kernel, rfl⟩
theorem d30_8 : DAt B30 8 (.ifCond .lt 34) 3 11 := ⟨by decide +kernel, rfl⟩
theorem d30_11 : DAt B30 11 (.iload_n 2) 1 12 := ⟨by decide +kernel, rfl⟩
theorem d30_12 : DAt B30 12 (.iload_n 1) 1 13 := ⟨by decide +kernel, rfl⟩
theorem d30_13 : DAt B30 13 (.if_icmp .eq 23) 3 16 := ⟨by decide +kernel, rfl⟩
theorem d30_16 : DAt B30 16 (.aload_n 0) 1 17 := ⟨by decide +kernel, rfl⟩
theorem d30_17 : DAt B30 17 (.getfield 7) 3 20 := ⟨by decide +kernel, rfl⟩
theorem d30_20 : DAt B30 20 (.iload_n 2) 1 21 := ⟨by decide +kernel, rfl⟩
theorem d30_21 : DAt B30 21 (.baload) 1 22 := ⟨by decide +kernel, rfl⟩
theorem d30_22 : DAt B30 22 (.ifCond .ne 14) 3 25 := ⟨by decide +kernel, rfl⟩
theorem d30_25 : DAt B30 25 (.aload_n 0) 1 26 := ⟨by decide +kernel, rfl⟩
theorem d30_26 : DAt B30 26 (.getfield 23) 3 29 := ⟨by decide +kernel, rfl⟩
theorem d30_29 : DAt B30 29 (.iload_n 2) 1 30 := ⟨by decide +kernel, rfl⟩
theorem d30_30 : DAt B30 30 (.iaload) 1 31 := ⟨by decide +kernel, rfl⟩
theorem d30_31 : DAt B30 31 (.ifCond .le 5) 3 34 := ⟨by decide +kernel, rfl⟩
theorem d30_34 : DAt B30 34 (.iload_n 2) 1 35 := ⟨by decide +kernel, rfl⟩
theorem d30_35 : DAt B30 35 (.ireturn) 1 36 := ⟨by decide +kernel, rfl⟩
theorem d30_36 : DAt B30 36 (.iinc 2 (-1)) 3 39 := ⟨by decide +kernel, rfl⟩
theorem d30_39 : DAt B30 39 (.goto (-32)) 3 42 := ⟨by decide +kernel, rfl⟩
theorem d30_42 : DAt B30 42 (.iconst (-1)) 1 43 := ⟨by decide +kernel, rfl⟩
theorem d30_43 : DAt B30 43 (.ireturn) 1 44 := ⟨by decide +kernel, rfl⟩
def B13 : Bdy := ((⟨"WsClockPager", "loadControl", "(I)V"⟩ : MethodName), prog_1_method_23_code, 5, none, ({ frames := 1, cells := 0, slots := 0, locals := 14 } : Room))
theorem d13_0 : DAt B13 0 (.iconst 0) 1 1 := ⟨by decide +kernel, rfl⟩
theorem d13_1 : DAt B13 1 (.istore_n 2) 1 2 := ⟨by decide +kernel, rfl⟩
theorem d13_2 : DAt B13 2 (.iload_n 2) 1 3 := ⟨by decide +kernel, rfl⟩
theorem d13_3 : DAt B13 3 (.aload_n 0) 1 4 := ⟨by decide +kernel, rfl⟩
theorem d13_4 : DAt B13 4 (.getfield 69) 3 7 := ⟨by decide +kernel, rfl⟩
theorem d13_7 : DAt B13 7 (.if_icmp .ge 58) 3 10 := ⟨by decide +kernel, rfl⟩
theorem d13_10 : DAt B13 10 (.aload_n 0) 1 11 := ⟨by decide +kernel, rfl⟩
theorem d13_11 : DAt B13 11 (.invokevirtual 124) 3 14 := ⟨by decide +kernel, rfl⟩
theorem d13_14 : DAt B13 14 (.istore_n 3) 1 15 := ⟨by decide +kernel, rfl⟩
theorem d13_15 : DAt B13 15 (.iload_n 3) 1 16 := ⟨by decide +kernel, rfl⟩
theorem d13_16 : DAt B13 16 (.aload_n 0) 1 17 := ⟨by decide +kernel, rfl⟩
theorem d13_17 : DAt B13 17 (.getfield 76) 3 20 := ⟨by decide +kernel, rfl⟩
theorem d13_20 : DAt B13 20 (.if_icmp .gt 6) 3 23 := ⟨by decide +kernel, rfl⟩
theorem d13_23 : DAt B13 23 (.goto 42) 3 26 := ⟨by decide +kernel, rfl⟩
theorem d13_26 : DAt B13 26 (.aload_n 0) 1 27 := ⟨by decide +kernel, rfl⟩
theorem d13_27 : DAt B13 27 (.iload_n 1) 1 28 := ⟨by decide +kernel, rfl⟩
theorem d13_28 : DAt B13 28 (.invokevirtual 128) 3 31 := ⟨by decide +kernel, rfl⟩
theorem d13_31 : DAt B13 31 (.istore 4) 2 33 := ⟨by decide +kernel, rfl⟩
theorem d13_33 : DAt B13 33 (.iload 4) 2 35 := ⟨by decide +kernel, rfl⟩
theorem d13_35 : DAt B13 35 (.ifCond .ge 6) 3 38 := ⟨by decide +kernel, rfl⟩
theorem d13_38 : DAt B13 38 (.goto 27) 3 41 := ⟨by decide +kernel, rfl⟩
theorem d13_41 : DAt B13 41 (.aload_n 0) 1 42 := ⟨by decide +kernel, rfl⟩
theorem d13_42 : DAt B13 42 (.getfield 7) 3 45 := ⟨by decide +kernel, rfl⟩
theorem d13_45 : DAt B13 45 (.iload 4) 2 47 := ⟨by decide +kernel, rfl⟩
theorem d13_47 : DAt B13 47 (.iconst 1) 1 48 := ⟨by decide +kernel, rfl⟩
theorem d13_48 : DAt B13 48 (.bastore) 1 49 := ⟨by decide +kernel, rfl⟩
theorem d13_49 : DAt B13 49 (.aload_n 0) 1 50 := ⟨by decide +kernel, rfl⟩
theorem d13_50 : DAt B13 50 (.dup) 1 51 := ⟨by decide +kernel, rfl⟩
theorem d13_51 : DAt B13 51 (.getfield 85) 3 54 := ⟨by decide +kernel, rfl⟩
theorem d13_54 : DAt B13 54 (.iconst 1) 1 55 := ⟨by decide +kernel, rfl⟩
theorem d13_55 : DAt B13 55 (.iadd) 1 56 := ⟨by decide +kernel, rfl⟩
theorem d13_56 : DAt B13 56 (.putfield 85) 3 59 := ⟨by decide +kernel, rfl⟩
theorem d13_59 : DAt B13 59 (.iinc 2 1) 3 62 := ⟨by decide +kernel, rfl⟩
theorem d13_62 : DAt B13 62 (.goto (-60)) 3 65 := ⟨by decide +kernel, rfl⟩
theorem d13_65 : DAt B13 65 (.iconst 0) 1 66 := ⟨by decide +kernel, rfl⟩
theorem d13_66 : DAt B13 66 (.istore_n 2) 1 67 := ⟨by decide +kernel, rfl⟩
theorem d13_67 : DAt B13 67 (.iload_n 2) 1 68 := ⟨by decide +kernel, rfl⟩
theorem d13_68 : DAt B13 68 (.aload_n 0) 1 69 := ⟨by decide +kernel, rfl⟩
theorem d13_69 : DAt B13 69 (.getfield 69) 3 72 := ⟨by decide +kernel, rfl⟩
theorem d13_72 : DAt B13 72 (.if_icmp .ge 55) 3 75 := ⟨by decide +kernel, rfl⟩
theorem d13_75 : DAt B13 75 (.aload_n 0) 1 76 := ⟨by decide +kernel, rfl⟩
theorem d13_76 : DAt B13 76 (.getfield 7) 3 79 := ⟨by decide +kernel, rfl⟩
theorem d13_79 : DAt B13 79 (.iload_n 2) 1 80 := ⟨by decide +kernel, rfl⟩
theorem d13_80 : DAt B13 80 (.baload) 1 81 := ⟨by decide +kernel, rfl⟩
theorem d13_81 : DAt B13 81 (.ifCond .eq 40) 3 84 := ⟨by decide +kernel, rfl⟩
theorem d13_84 : DAt B13 84 (.aload_n 0) 1 85 := ⟨by decide +kernel, rfl⟩
theorem d13_85 : DAt B13 85 (.invokevirtual 124) 3 88 := ⟨by decide +kernel, rfl⟩
theorem d13_88 : DAt B13 88 (.istore_n 3) 1 89 := ⟨by decide +kernel, rfl⟩
theorem d13_89 : DAt B13 89 (.iload_n 3) 1 90 := ⟨by decide +kernel, rfl⟩
theorem d13_90 : DAt B13 90 (.aload_n 0) 1 91 := ⟨by decide +kernel, rfl⟩
theorem d13_91 : DAt B13 91 (.getfield 23) 3 94 := ⟨by decide +kernel, rfl⟩
theorem d13_94 : DAt B13 94 (.iload_n 2) 1 95 := ⟨by decide +kernel, rfl⟩
theorem d13_95 : DAt B13 95 (.iaload) 1 96 := ⟨by decide +kernel, rfl⟩
theorem d13_96 : DAt B13 96 (.iadd) 1 97 := ⟨by decide +kernel, rfl⟩
theorem d13_97 : DAt B13 97 (.aload_n 0) 1 98 := ⟨by decide +kernel, rfl⟩
theorem d13_98 : DAt B13 98 (.getfield 76) 3 101 := ⟨by decide +kernel, rfl⟩
theorem d13_101 : DAt B13 101 (.if_icmp .gt 20) 3 104 := ⟨by decide +kernel, rfl⟩
theorem d13_104 : DAt B13 104 (.aload_n 0) 1 105 := ⟨by decide +kernel, rfl⟩
theorem d13_105 : DAt B13 105 (.getfield 7) 3 108 := ⟨by decide +kernel, rfl⟩
theorem d13_108 : DAt B13 108 (.iload_n 2) 1 109 := ⟨by decide +kernel, rfl⟩
theorem d13_109 : DAt B13 109 (.iconst 0) 1 110 := ⟨by decide +kernel, rfl⟩
theorem d13_110 : DAt B13 110 (.bastore) 1 111 := ⟨by decide +kernel, rfl⟩
theorem d13_111 : DAt B13 111 (.aload_n 0) 1 112 := ⟨by decide +kernel, rfl⟩
theorem d13_112 : DAt B13 112 (.dup) 1 113 := ⟨by decide +kernel, rfl⟩
theorem d13_113 : DAt B13 113 (.getfield 88) 3 116 := ⟨by decide +kernel, rfl⟩
theorem d13_116 : DAt B13 116 (.iconst 1) 1 117 := ⟨by decide +kernel, rfl⟩
theorem d13_117 : DAt B13 117 (.iadd) 1 118 := ⟨by decide +kernel, rfl⟩
theorem d13_118 : DAt B13 118 (.putfield 88) 3 121 := ⟨by decide +kernel, rfl⟩
theorem d13_121 : DAt B13 121 (.iinc 2 1) 3 124 := ⟨by decide +kernel, rfl⟩
theorem d13_124 : DAt B13 124 (.goto (-57)) 3 127 := ⟨by decide +kernel, rfl⟩
theorem d13_127 : DAt B13 127 (.return_) 1 128 := ⟨by decide +kernel, rfl⟩
def B26 : Bdy := ((⟨"WsClockPager", "release", "(I)I"⟩ : MethodName), prog_1_method_4_code, 3, (some .int), ({ frames := 2, cells := 0, slots := 0, locals := 30 } : Room))
theorem d26_0 : DAt B26 0 (.aload_n 0) 1 1 := ⟨by decide +kernel, rfl⟩
theorem d26_1 : DAt B26 1 (.iload_n 1) 1 2 := ⟨by decide +kernel, rfl⟩
theorem d26_2 : DAt B26 2 (.invokevirtual 111) 3 5 := ⟨by decide +kernel, rfl⟩
theorem d26_5 : DAt B26 5 (.ifCond .ne 10) 3 8 := ⟨by decide +kernel, rfl⟩
theorem d26_8 : DAt B26 8 (.aload_n 0) 1 9 := ⟨by decide +kernel, rfl⟩
theorem d26_9 : DAt B26 9 (.iconst 1) 1 10 := ⟨by decide +kernel, rfl⟩
theorem d26_10 : DAt B26 10 (.putfield 82) 3 13 := ⟨by decide +kernel, rfl⟩
theorem d26_13 : DAt B26 13 (.iconst 1) 1 14 := ⟨by decide +kernel, rfl⟩
theorem d26_14 : DAt B26 14 (.ireturn) 1 15 := ⟨by decide +kernel, rfl⟩
theorem d26_15 : DAt B26 15 (.iconst 0) 1 16 := ⟨by decide +kernel, rfl⟩
theorem d26_16 : DAt B26 16 (.istore_n 2) 1 17 := ⟨by decide +kernel, rfl⟩
theorem d26_17 : DAt B26 17 (.iload_n 2) 1 18 := ⟨by decide +kernel, rfl⟩
theorem d26_18 : DAt B26 18 (.aload_n 0) 1 19 := ⟨by decide +kernel, rfl⟩
theorem d26_19 : DAt B26 19 (.getfield 73) 3 22 := ⟨by decide +kernel, rfl⟩
theorem d26_22 : DAt B26 22 (.if_icmp .ge 19) 3 25 := ⟨by decide +kernel, rfl⟩
theorem d26_25 : DAt B26 25 (.aload_n 0) 1 26 := ⟨by decide +kernel, rfl⟩
theorem d26_26 : DAt B26 26 (.iload_n 1) 1 27 := ⟨by decide +kernel, rfl⟩
theorem d26_27 : DAt B26 27 (.bipush 16) 2 29 := ⟨by decide +kernel, rfl⟩
theorem d26_29 : DAt B26 29 (.imul) 1 30 := ⟨by decide +kernel, rfl⟩
theorem d26_30 : DAt B26 30 (.iload_n 2) 1 31 := ⟨by decide +kernel, rfl⟩
theorem d26_31 : DAt B26 31 (.iadd) 1 32 := ⟨by decide +kernel, rfl⟩
theorem d26_32 : DAt B26 32 (.invokevirtual 115) 3 35 := ⟨by decide +kernel, rfl⟩
theorem d26_35 : DAt B26 35 (.iinc 2 1) 3 38 := ⟨by decide +kernel, rfl⟩
theorem d26_38 : DAt B26 38 (.goto (-21)) 3 41 := ⟨by decide +kernel, rfl⟩
theorem d26_41 : DAt B26 41 (.aload_n 0) 1 42 := ⟨by decide +kernel, rfl⟩
theorem d26_42 : DAt B26 42 (.getfield 13) 3 45 := ⟨by decide +kernel, rfl⟩
theorem d26_45 : DAt B26 45 (.iload_n 1) 1 46 := ⟨by decide +kernel, rfl⟩
theorem d26_46 : DAt B26 46 (.iconst 0) 1 47 := ⟨by decide +kernel, rfl⟩
theorem d26_47 : DAt B26 47 (.iastore) 1 48 := ⟨by decide +kernel, rfl⟩
theorem d26_48 : DAt B26 48 (.aload_n 0) 1 49 := ⟨by decide +kernel, rfl⟩
theorem d26_49 : DAt B26 49 (.getfield 17) 3 52 := ⟨by decide +kernel, rfl⟩
theorem d26_52 : DAt B26 52 (.iload_n 1) 1 53 := ⟨by decide +kernel, rfl⟩
theorem d26_53 : DAt B26 53 (.iconst 0) 1 54 := ⟨by decide +kernel, rfl⟩
theorem d26_54 : DAt B26 54 (.iastore) 1 55 := ⟨by decide +kernel, rfl⟩
theorem d26_55 : DAt B26 55 (.aload_n 0) 1 56 := ⟨by decide +kernel, rfl⟩
theorem d26_56 : DAt B26 56 (.getfield 20) 3 59 := ⟨by decide +kernel, rfl⟩
theorem d26_59 : DAt B26 59 (.iload_n 1) 1 60 := ⟨by decide +kernel, rfl⟩
theorem d26_60 : DAt B26 60 (.iconst 0) 1 61 := ⟨by decide +kernel, rfl⟩
theorem d26_61 : DAt B26 61 (.iastore) 1 62 := ⟨by decide +kernel, rfl⟩
theorem d26_62 : DAt B26 62 (.aload_n 0) 1 63 := ⟨by decide +kernel, rfl⟩
theorem d26_63 : DAt B26 63 (.getfield 23) 3 66 := ⟨by decide +kernel, rfl⟩
theorem d26_66 : DAt B26 66 (.iload_n 1) 1 67 := ⟨by decide +kernel, rfl⟩
theorem d26_67 : DAt B26 67 (.iconst 0) 1 68 := ⟨by decide +kernel, rfl⟩
theorem d26_68 : DAt B26 68 (.iastore) 1 69 := ⟨by decide +kernel, rfl⟩
theorem d26_69 : DAt B26 69 (.aload_n 0) 1 70 := ⟨by decide +kernel, rfl⟩
theorem d26_70 : DAt B26 70 (.getfield 26) 3 73 := ⟨by decide +kernel, rfl⟩
theorem d26_73 : DAt B26 73 (.iload_n 1) 1 74 := ⟨by decide +kernel, rfl⟩
theorem d26_74 : DAt B26 74 (.iconst 0) 1 75 := ⟨by decide +kernel, rfl⟩
theorem d26_75 : DAt B26 75 (.iastore) 1 76 := ⟨by decide +kernel, rfl⟩
theorem d26_76 : DAt B26 76 (.aload_n 0) 1 77 := ⟨by decide +kernel, rfl⟩
theorem d26_77 : DAt B26 77 (.getfield 7) 3 80 := ⟨by decide +kernel, rfl⟩
theorem d26_80 : DAt B26 80 (.iload_n 1) 1 81 := ⟨by decide +kernel, rfl⟩
theorem d26_81 : DAt B26 81 (.iconst 0) 1 82 := ⟨by decide +kernel, rfl⟩
theorem d26_82 : DAt B26 82 (.bastore) 1 83 := ⟨by decide +kernel, rfl⟩
theorem d26_83 : DAt B26 83 (.aload_n 0) 1 84 := ⟨by decide +kernel, rfl⟩
theorem d26_84 : DAt B26 84 (.iload_n 1) 1 85 := ⟨by decide +kernel, rfl⟩
theorem d26_85 : DAt B26 85 (.invokevirtual 107) 3 88 := ⟨by decide +kernel, rfl⟩
theorem d26_88 : DAt B26 88 (.aload_n 0) 1 89 := ⟨by decide +kernel, rfl⟩
theorem d26_89 : DAt B26 89 (.iconst 0) 1 90 := ⟨by decide +kernel, rfl⟩
theorem d26_90 : DAt B26 90 (.putfield 82) 3 93 := ⟨by decide +kernel, rfl⟩
theorem d26_93 : DAt B26 93 (.iconst 0) 1 94 := ⟨by decide +kernel, rfl⟩
theorem d26_94 : DAt B26 94 (.ireturn) 1 95 := ⟨by decide +kernel, rfl⟩
def B7 : Bdy := ((⟨"WsClockPager", "check", "(II)I"⟩ : MethodName), prog_1_method_18_code, 3, (some .int), ({ frames := 1, cells := 0, slots := 0, locals := 13 } : Room))
theorem d7_0 : DAt B7 0 (.aload_n 0) 1 1 := ⟨by decide +kernel, rfl⟩
theorem d7_1 : DAt B7 1 (.iload_n 1) 1 2 := ⟨by decide +kernel, rfl⟩
theorem d7_2 : DAt B7 2 (.invokevirtual 111) 3 5 := ⟨by decide +kernel, rfl⟩
theorem d7_5 : DAt B7 5 (.ifCond .ne 5) 3 8 := ⟨by decide +kernel, rfl⟩
theorem d7_8 : DAt B7 8 (.iconst 1) 1 9 := ⟨by decide +kernel, rfl⟩
theorem d7_9 : DAt B7 9 (.ireturn) 1 10 := ⟨by decide +kernel, rfl⟩
theorem d7_10 : DAt B7 10 (.iload_n 2) 1 11 := ⟨by decide +kernel, rfl⟩
theorem d7_11 : DAt B7 11 (.ifCond .lt 13) 3 14 := ⟨by decide +kernel, rfl⟩
theorem d7_14 : DAt B7 14 (.iload_n 2) 1 15 := ⟨by decide +kernel, rfl⟩
theorem d7_15 : DAt B7 15 (.aload_n 0) 1 16 := ⟨by decide +kernel, rfl⟩
theorem d7_16 : DAt B7 16 (.getfield 73) 3 19 := ⟨by decide +kernel, rfl⟩
theorem d7_19 : DAt B7 19 (.iconst 4) 1 20 := ⟨by decide +kernel, rfl⟩
theorem d7_20 : DAt B7 20 (.imul) 1 21 := ⟨by decide +kernel, rfl⟩
theorem d7_21 : DAt B7 21 (.if_icmp .lt 5) 3 24 := ⟨by decide +kernel, rfl⟩
theorem d7_24 : DAt B7 24 (.iconst 2) 1 25 := ⟨by decide +kernel, rfl⟩
theorem d7_25 : DAt B7 25 (.ireturn) 1 26 := ⟨by decide +kernel, rfl⟩
theorem d7_26 : DAt B7 26 (.aload_n 0) 1 27 := ⟨by decide +kernel, rfl⟩
theorem d7_27 : DAt B7 27 (.getfield 7) 3 30 := ⟨by decide +kernel, rfl⟩
theorem d7_30 : DAt B7 30 (.iload_n 1) 1 31 := ⟨by decide +kernel, rfl⟩
theorem d7_31 : DAt B7 31 (.baload) 1 32 := ⟨by decide +kernel, rfl⟩
theorem d7_32 : DAt B7 32 (.ifCond .eq 5) 3 35 := ⟨by decide +kernel, rfl⟩
theorem d7_35 : DAt B7 35 (.iconst 3) 1 36 := ⟨by decide +kernel, rfl⟩
theorem d7_36 : DAt B7 36 (.ireturn) 1 37 := ⟨by decide +kernel, rfl⟩
theorem d7_37 : DAt B7 37 (.iconst 0) 1 38 := ⟨by decide +kernel, rfl⟩
theorem d7_38 : DAt B7 38 (.ireturn) 1 39 := ⟨by decide +kernel, rfl⟩
def B9 : Bdy := ((⟨"WsClockPager", "findFreeFrame", "()I"⟩ : MethodName), prog_1_method_26_code, 2, (some .int), ({ frames := 0, cells := 0, slots := 0, locals := 0 } : Room))
theorem d9_0 : DAt B9 0 (.iconst 0) 1 1 := ⟨by decide +kernel, rfl⟩
theorem d9_1 : DAt B9 1 (.istore_n 1) 1 2 := ⟨by decide +kernel, rfl⟩
theorem d9_2 : DAt B9 2 (.iload_n 1) 1 3 := ⟨by decide +kernel, rfl⟩
theorem d9_3 : DAt B9 3 (.aload_n 0) 1 4 := ⟨by decide +kernel, rfl⟩
theorem d9_4 : DAt B9 4 (.getfield 76) 3 7 := ⟨by decide +kernel, rfl⟩
theorem d9_7 : DAt B9 7 (.if_icmp .ge 20) 3 10 := ⟨by decide +kernel, rfl⟩
theorem d9_10 : DAt B9 10 (.aload_n 0) 1 11 := ⟨by decide +kernel, rfl⟩
theorem d9_11 : DAt B9 11 (.getfield 47) 3 14 := ⟨by decide +kernel, rfl⟩
theorem d9_14 : DAt B9 14 (.iload_n 1) 1 15 := ⟨by decide +kernel, rfl⟩
theorem d9_15 : DAt B9 15 (.iaload) 1 16 := ⟨by decide +kernel, rfl⟩
theorem d9_16 : DAt B9 16 (.ifCond .ge 5) 3 19 := ⟨by decide +kernel, rfl⟩
theorem d9_19 : DAt B9 19 (.iload_n 1) 1 20 := ⟨by decide +kernel, rfl⟩
theorem d9_20 : DAt B9 20 (.ireturn) 1 21 := ⟨by decide +kernel, rfl⟩
theorem d9_21 : DAt B9 21 (.iinc 1 1) 3 24 := ⟨by decide +kernel, rfl⟩
theorem d9_24 : DAt B9 24 (.goto (-22)) 3 27 := ⟨by decide +kernel, rfl⟩
theorem d9_27 : DAt B9 27 (.iconst (-1)) 1 28 := ⟨by decide +kernel, rfl⟩
theorem d9_28 : DAt B9 28 (.ireturn) 1 29 := ⟨by decide +kernel, rfl⟩
def B32 : Bdy := ((⟨"WsClockPager", "allocSlot", "()I"⟩ : MethodName), prog_1_method_31_code, 3, (some .int), ({ frames := 0, cells := 0, slots := 0, locals := 0 } : Room))
theorem d32_0 : DAt B32 0 (.aload_n 0) 1 1 := ⟨by decide +kernel, rfl⟩
theorem d32_1 : DAt B32 1 (.getfield 69) 3 4 := ⟨by decide +kernel, rfl⟩
theorem d32_4 : DAt B32 4 (.aload_n 0) 1 5 := ⟨by decide +kernel, rfl⟩
theorem d32_5 : DAt B32 5 (.getfield 73) 3 8 := ⟨by decide +kernel, rfl⟩
theorem d32_8 : DAt B32 8 (.imul) 1 9 := ⟨by decide +kernel, rfl⟩
theorem d32_9 : DAt B32 9 (.istore_n 1) 1 10 := ⟨by decide +kernel, rfl⟩
theorem d32_10 : DAt B32 10 (.iconst 0) 1 11 := ⟨by decide +kernel, rfl⟩
theorem d32_11 : DAt B32 11 (.istore_n 2) 1 12 := ⟨by decide +kernel, rfl⟩
theorem d32_12 : DAt B32 12 (.iload_n 2) 1 13 := ⟨by decide +kernel, rfl⟩
theorem d32_13 : DAt B32 13 (.iload_n 1) 1 14 := ⟨by decide +kernel, rfl⟩
theorem d32_14 : DAt B32 14 (.if_icmp .ge 20) 3 17 := ⟨by decide +kernel, rfl⟩
theorem d32_17 : DAt B32 17 (.aload_n 0) 1 18 := ⟨by decide +kernel, rfl⟩
theorem d32_18 : DAt B32 18 (.getfield 59) 3 21 := ⟨by decide +kernel, rfl⟩
theorem d32_21 : DAt B32 21 (.iload_n 2) 1 22 := ⟨by decide +kernel, rfl⟩
theorem d32_22 : DAt B32 22 (.baload) 1 23 := ⟨by decide +kernel, rfl⟩
theorem d32_23 : DAt B32 23 (.ifCond .ne 5) 3 26 := ⟨by decide +kernel, rfl⟩
theorem d32_26 : DAt B32 26 (.iload_n 2) 1 27 := ⟨by decide +kernel, rfl⟩
theorem d32_27 : DAt B32 27 (.ireturn) 1 28 := ⟨by decide +kernel, rfl⟩
theorem d32_28 : DAt B32 28 (.iinc 2 1) 3 31 := ⟨by decide +kernel, rfl⟩
theorem d32_31 : DAt B32 31 (.goto (-19)) 3 34 := ⟨by decide +kernel, rfl⟩
theorem d32_34 : DAt B32 34 (.iconst (-1)) 1 35 := ⟨by decide +kernel, rfl⟩
theorem d32_35 : DAt B32 35 (.ireturn) 1 36 := ⟨by decide +kernel, rfl⟩
def B31 : Bdy := ((⟨"WsClockPager", "writeBack", "(I)V"⟩ : MethodName), prog_1_method_30_code, 5, none, ({ frames := 1, cells := 0, slots := 0, locals := 14 } : Room))
theorem d31_0 : DAt B31 0 (.aload_n 0) 1 1 := ⟨by decide +kernel, rfl⟩
theorem d31_1 : DAt B31 1 (.getfield 47) 3 4 := ⟨by decide +kernel, rfl⟩
theorem d31_4 : DAt B31 4 (.iload_n 1) 1 5 := ⟨by decide +kernel, rfl⟩
theorem d31_5 : DAt B31 5 (.iaload) 1 6 := ⟨by decide +kernel, rfl⟩
theorem d31_6 : DAt B31 6 (.istore_n 2) 1 7 := ⟨by decide +kernel, rfl⟩
theorem d31_7 : DAt B31 7 (.iload_n 2) 1 8 := ⟨by decide +kernel, rfl⟩
theorem d31_8 : DAt B31 8 (.ifCond .ge 4) 3 11 := ⟨by decide +kernel, rfl⟩
theorem d31_11 : DAt B31 11 (.return_) 1 12 := ⟨by decide +kernel, rfl⟩
theorem d31_12 : DAt B31 12 (.aload_n 0) 1 13 := ⟨by decide +kernel, rfl⟩
theorem d31_13 : DAt B31 13 (.getfield 41) 3 16 := ⟨by decide +kernel, rfl⟩
theorem d31_16 : DAt B31 16 (.iload_n 2) 1 17 := ⟨by decide +kernel, rfl⟩
theorem d31_17 : DAt B31 17 (.iaload) 1 18 := ⟨by decide +kernel, rfl⟩
theorem d31_18 : DAt B31 18 (.istore_n 3) 1 19 := ⟨by decide +kernel, rfl⟩
theorem d31_19 : DAt B31 19 (.iload_n 3) 1 20 := ⟨by decide +kernel, rfl⟩
theorem d31_20 : DAt B31 20 (.ifCond .ge 27) 3 23 := ⟨by decide +kernel, rfl⟩
theorem d31_23 : DAt B31 23 (.aload_n 0) 1 24 := ⟨by decide +kernel, rfl⟩
theorem d31_24 : DAt B31 24 (.invokevirtual 147) 3 27 := ⟨by decide +kernel, rfl⟩
theorem d31_27 : DAt B31 27 (.istore_n 3) 1 28 := ⟨by decide +kernel, rfl⟩
theorem d31_28 : DAt B31 28 (.iload_n 3) 1 29 := ⟨by decide +kernel, rfl⟩
theorem d31_29 : DAt B31 29 (.ifCond .ge 4) 3 32 := ⟨by decide +kernel, rfl⟩
theorem d31_32 : DAt B31 32 (.return_) 1 33 := ⟨by decide +kernel, rfl⟩
theorem d31_33 : DAt B31 33 (.aload_n 0) 1 34 := ⟨by decide +kernel, rfl⟩
theorem d31_34 : DAt B31 34 (.getfield 59) 3 37 := ⟨by decide +kernel, rfl⟩
theorem d31_37 : DAt B31 37 (.iload_n 3) 1 38 := ⟨by decide +kernel, rfl⟩
theorem d31_38 : DAt B31 38 (.iconst 1) 1 39 := ⟨by decide +kernel, rfl⟩
theorem d31_39 : DAt B31 39 (.bastore) 1 40 := ⟨by decide +kernel, rfl⟩
theorem d31_40 : DAt B31 40 (.aload_n 0) 1 41 := ⟨by decide +kernel, rfl⟩
theorem d31_41 : DAt B31 41 (.getfield 41) 3 44 := ⟨by decide +kernel, rfl⟩
theorem d31_44 : DAt B31 44 (.iload_n 2) 1 45 := ⟨by decide +kernel, rfl⟩
theorem d31_45 : DAt B31 45 (.iload_n 3) 1 46 := ⟨by decide +kernel, rfl⟩
theorem d31_46 : DAt B31 46 (.iastore) 1 47 := ⟨by decide +kernel, rfl⟩
theorem d31_47 : DAt B31 47 (.iconst 0) 1 48 := ⟨by decide +kernel, rfl⟩
theorem d31_48 : DAt B31 48 (.istore 4) 2 50 := ⟨by decide +kernel, rfl⟩
theorem d31_50 : DAt B31 50 (.iload 4) 2 52 := ⟨by decide +kernel, rfl⟩
theorem d31_52 : DAt B31 52 (.iconst 4) 1 53 := ⟨by decide +kernel, rfl⟩
theorem d31_53 : DAt B31 53 (.if_icmp .ge 31) 3 56 := ⟨by decide +kernel, rfl⟩
theorem d31_56 : DAt B31 56 (.aload_n 0) 1 57 := ⟨by decide +kernel, rfl⟩
theorem d31_57 : DAt B31 57 (.getfield 62) 3 60 := ⟨by decide +kernel, rfl⟩
theorem d31_60 : DAt B31 60 (.iload_n 3) 1 61 := ⟨by decide +kernel, rfl⟩
theorem d31_61 : DAt B31 61 (.iconst 4) 1 62 := ⟨by decide +kernel, rfl⟩
theorem d31_62 : DAt B31 62 (.imul) 1 63 := ⟨by decide +kernel, rfl⟩
theorem d31_63 : DAt B31 63 (.iload 4) 2 65 := ⟨by decide +kernel, rfl⟩
theorem d31_65 : DAt B31 65 (.iadd) 1 66 := ⟨by decide +kernel, rfl⟩
theorem d31_66 : DAt B31 66 (.aload_n 0) 1 67 := ⟨by decide +kernel, rfl⟩
theorem d31_67 : DAt B31 67 (.getfield 56) 3 70 := ⟨by decide +kernel, rfl⟩
theorem d31_70 : DAt B31 70 (.iload_n 1) 1 71 := ⟨by decide +kernel, rfl⟩
theorem d31_71 : DAt B31 71 (.iconst 4) 1 72 := ⟨by decide +kernel, rfl⟩
theorem d31_72 : DAt B31 72 (.imul) 1 73 := ⟨by decide +kernel, rfl⟩
theorem d31_73 : DAt B31 73 (.iload 4) 2 75 := ⟨by decide +kernel, rfl⟩
theorem d31_75 : DAt B31 75 (.iadd) 1 76 := ⟨by decide +kernel, rfl⟩
theorem d31_76 : DAt B31 76 (.iaload) 1 77 := ⟨by decide +kernel, rfl⟩
theorem d31_77 : DAt B31 77 (.iastore) 1 78 := ⟨by decide +kernel, rfl⟩
theorem d31_78 : DAt B31 78 (.iinc 4 1) 3 81 := ⟨by decide +kernel, rfl⟩
theorem d31_81 : DAt B31 81 (.goto (-31)) 3 84 := ⟨by decide +kernel, rfl⟩
theorem d31_84 : DAt B31 84 (.aload_n 0) 1 85 := ⟨by decide +kernel, rfl⟩
theorem d31_85 : DAt B31 85 (.getfield 53) 3 88 := ⟨by decide +kernel, rfl⟩
theorem d31_88 : DAt B31 88 (.iload_n 1) 1 89 := ⟨by decide +kernel, rfl⟩
theorem d31_89 : DAt B31 89 (.iconst 0) 1 90 := ⟨by decide +kernel, rfl⟩
theorem d31_90 : DAt B31 90 (.bastore) 1 91 := ⟨by decide +kernel, rfl⟩
theorem d31_91 : DAt B31 91 (.return_) 1 92 := ⟨by decide +kernel, rfl⟩
def B28 : Bdy := ((⟨"WsClockPager", "chooseVictim", "()I"⟩ : MethodName), prog_1_method_28_code, 7, (some .int), ({ frames := 2, cells := 0, slots := 0, locals := 30 } : Room))
theorem d28_0 : DAt B28 0 (.iconst (-1)) 1 1 := ⟨by decide +kernel, rfl⟩
theorem d28_1 : DAt B28 1 (.istore_n 1) 1 2 := ⟨by decide +kernel, rfl⟩
theorem d28_2 : DAt B28 2 (.iconst 0) 1 3 := ⟨by decide +kernel, rfl⟩
theorem d28_3 : DAt B28 3 (.istore_n 2) 1 4 := ⟨by decide +kernel, rfl⟩
theorem d28_4 : DAt B28 4 (.iload_n 2) 1 5 := ⟨by decide +kernel, rfl⟩
theorem d28_5 : DAt B28 5 (.iconst 2) 1 6 := ⟨by decide +kernel, rfl⟩
theorem d28_6 : DAt B28 6 (.aload_n 0) 1 7 := ⟨by decide +kernel, rfl⟩
theorem d28_7 : DAt B28 7 (.getfield 76) 3 10 := ⟨by decide +kernel, rfl⟩
theorem d28_10 : DAt B28 10 (.imul) 1 11 := ⟨by decide +kernel, rfl⟩
theorem d28_11 : DAt B28 11 (.if_icmp .ge 162) 3 14 := ⟨by decide +kernel, rfl⟩
theorem d28_14 : DAt B28 14 (.aload_n 0) 1 15 := ⟨by decide +kernel, rfl⟩
theorem d28_15 : DAt B28 15 (.getfield 91) 3 18 := ⟨by decide +kernel, rfl⟩
theorem d28_18 : DAt B28 18 (.istore_n 3) 1 19 := ⟨by decide +kernel, rfl⟩
theorem d28_19 : DAt B28 19 (.aload_n 0) 1 20 := ⟨by decide +kernel, rfl⟩
theorem d28_20 : DAt B28 20 (.aload_n 0) 1 21 := ⟨by decide +kernel, rfl⟩
theorem d28_21 : DAt B28 21 (.getfield 91) 3 24 := ⟨by decide +kernel, rfl⟩
theorem d28_24 : DAt B28 24 (.iconst 1) 1 25 := ⟨by decide +kernel, rfl⟩
theorem d28_25 : DAt B28 25 (.iadd) 1 26 := ⟨by decide +kernel, rfl⟩
theorem d28_26 : DAt B28 26 (.aload_n 0) 1 27 := ⟨by decide +kernel, rfl⟩
theorem d28_27 : DAt B28 27 (.getfield 76) 3 30 := ⟨by decide +kernel, rfl⟩
theorem d28_30 : DAt B28 30 (.irem) 1 31 := ⟨by decide +kernel, rfl⟩
theorem d28_31 : DAt B28 31 (.putfield 91) 3 34 := ⟨by decide +kernel, rfl⟩
theorem d28_34 : DAt B28 34 (.aload_n 0) 1 35 := ⟨by decide +kernel, rfl⟩
theorem d28_35 : DAt B28 35 (.getfield 47) 3 38 := ⟨by decide +kernel, rfl⟩
theorem d28_38 : DAt B28 38 (.iload_n 3) 1 39 := ⟨by decide +kernel, rfl⟩
theorem d28_39 : DAt B28 39 (.iaload) 1 40 := ⟨by decide +kernel, rfl⟩
theorem d28_40 : DAt B28 40 (.istore 4) 2 42 := ⟨by decide +kernel, rfl⟩
theorem d28_42 : DAt B28 42 (.iload 4) 2 44 := ⟨by decide +kernel, rfl⟩
theorem d28_44 : DAt B28 44 (.ifCond .ge 5) 3 47 := ⟨by decide +kernel, rfl⟩
theorem d28_47 : DAt B28 47 (.iload_n 3) 1 48 := ⟨by decide +kernel, rfl⟩
theorem d28_48 : DAt B28 48 (.ireturn) 1 49 := ⟨by decide +kernel, rfl⟩
theorem d28_49 : DAt B28 49 (.iload 4) 2 51 := ⟨by decide +kernel, rfl⟩
theorem d28_51 : DAt B28 51 (.bipush 16) 2 53 := ⟨by decide +kernel, rfl⟩
theorem d28_53 : DAt B28 53 (.idiv) 1 54 := ⟨by decide +kernel, rfl⟩
theorem d28_54 : DAt B28 54 (.istore 5) 2 56 := ⟨by decide +kernel, rfl⟩
theorem d28_56 : DAt B28 56 (.aload_n 0) 1 57 := ⟨by decide +kernel, rfl⟩
theorem d28_57 : DAt B28 57 (.getfield 50) 3 60 := ⟨by decide +kernel, rfl⟩
theorem d28_60 : DAt B28 60 (.iload_n 3) 1 61 := ⟨by decide +kernel, rfl⟩
theorem d28_61 : DAt B28 61 (.baload) 1 62 := ⟨by decide +kernel, rfl⟩
theorem d28_62 : DAt B28 62 (.ifCond .eq 27) 3 65 := ⟨by decide +kernel, rfl⟩
theorem d28_65 : DAt B28 65 (.aload_n 0) 1 66 := ⟨by decide +kernel, rfl⟩
theorem d28_66 : DAt B28 66 (.getfield 50) 3 69 := ⟨by decide +kernel, rfl⟩
theorem d28_69 : DAt B28 69 (.iload_n 3) 1 70 := ⟨by decide +kernel, rfl⟩
theorem d28_70 : DAt B28 70 (.iconst 0) 1 71 := ⟨by decide +kernel, rfl⟩
theorem d28_71 : DAt B28 71 (.bastore) 1 72 := ⟨by decide +kernel, rfl⟩
theorem d28_72 : DAt B28 72 (.aload_n 0) 1 73 := ⟨by decide +kernel, rfl⟩
theorem d28_73 : DAt B28 73 (.getfield 44) 3 76 := ⟨by decide +kernel, rfl⟩
theorem d28_76 : DAt B28 76 (.iload 4) 2 78 := ⟨by decide +kernel, rfl⟩
theorem d28_78 : DAt B28 78 (.aload_n 0) 1 79 := ⟨by decide +kernel, rfl⟩
theorem d28_79 : DAt B28 79 (.getfield 13) 3 82 := ⟨by decide +kernel, rfl⟩
theorem d28_82 : DAt B28 82 (.iload 5) 2 84 := ⟨by decide +kernel, rfl⟩
theorem d28_84 : DAt B28 84 (.iaload) 1 85 := ⟨by decide +kernel, rfl⟩
theorem d28_85 : DAt B28 85 (.iastore) 1 86 := ⟨by decide +kernel, rfl⟩
theorem d28_86 : DAt B28 86 (.goto 81) 3 89 := ⟨by decide +kernel, rfl⟩
theorem d28_89 : DAt B28 89 (.aload_n 0) 1 90 := ⟨by decide +kernel, rfl⟩
theorem d28_90 : DAt B28 90 (.getfield 7) 3 93 := ⟨by decide +kernel, rfl⟩
theorem d28_93 : DAt B28 93 (.iload 5) 2 95 := ⟨by decide +kernel, rfl⟩
theorem d28_95 : DAt B28 95 (.baload) 1 96 := ⟨by decide +kernel, rfl⟩
theorem d28_96 : DAt B28 96 (.ifCond .ne 25) 3 99 := ⟨by decide +kernel, rfl⟩
theorem d28_99 : DAt B28 99 (.aload_n 0) 1 100 := ⟨by decide +kernel, rfl⟩
theorem d28_100 : DAt B28 100 (.getfield 13) 3 103 := ⟨by decide +kernel, rfl⟩
theorem d28_103 : DAt B28 103 (.iload 5) 2 105 := ⟨by decide +kernel, rfl⟩
theorem d28_105 : DAt B28 105 (.iaload) 1 106 := ⟨by decide +kernel, rfl⟩
theorem d28_106 : DAt B28 106 (.aload_n 0) 1 107 := ⟨by decide +kernel, rfl⟩
theorem d28_107 : DAt B28 107 (.getfield 44) 3 110 := ⟨by decide +kernel, rfl⟩
theorem d28_110 : DAt B28 110 (.iload 4) 2 112 := ⟨by decide +kernel, rfl⟩
theorem d28_112 : DAt B28 112 (.iaload) 1 113 := ⟨by decide +kernel, rfl⟩
theorem d28_113 : DAt B28 113 (.isub) 1 114 := ⟨by decide +kernel, rfl⟩
theorem d28_114 : DAt B28 114 (.aload_n 0) 1 115 := ⟨by decide +kernel, rfl⟩
theorem d28_115 : DAt B28 115 (.getfield 79) 3 118 := ⟨by decide +kernel, rfl⟩
theorem d28_118 : DAt B28 118 (.if_icmp .lt 7) 3 121 := ⟨by decide +kernel, rfl⟩
theorem d28_121 : DAt B28 121 (.iconst 1) 1 122 := ⟨by decide +kernel, rfl⟩
theorem d28_122 : DAt B28 122 (.goto 4) 3 125 := ⟨by decide +kernel, rfl⟩
theorem d28_125 : DAt B28 125 (.iconst 0) 1 126 := ⟨by decide +kernel, rfl⟩
theorem d28_126 : DAt B28 126 (.istore 6) 2 128 := ⟨by decide +kernel, rfl⟩
theorem d28_128 : DAt B28 128 (.iload 6) 2 130 := ⟨by decide +kernel, rfl⟩
theorem d28_130 : DAt B28 130 (.ifCond .ne 21) 3 133 := ⟨by decide +kernel, rfl⟩
theorem d28_133 : DAt B28 133 (.iload_n 1) 1 134 := ⟨by decide +kernel, rfl⟩
theorem d28_134 : DAt B28 134 (.ifCond .ge 33) 3 137 := ⟨by decide +kernel, rfl⟩
theorem d28_137 : DAt B28 137 (.aload_n 0) 1 138 := ⟨by decide +kernel, rfl⟩
theorem d28_138 : DAt B28 138 (.getfield 53) 3 141 := ⟨by decide +kernel, rfl⟩
theorem d28_141 : DAt B28 141 (.iload_n 3) 1 142 := ⟨by decide +kernel, rfl⟩
theorem d28_142 : DAt B28 142 (.baload) 1 143 := ⟨by decide +kernel, rfl⟩
theorem d28_143 : DAt B28 143 (.ifCond .ne 24) 3 146 := ⟨by decide +kernel, rfl⟩
theorem d28_146 : DAt B28 146 (.iload_n 3) 1 147 := ⟨by decide +kernel, rfl⟩
theorem d28_147 : DAt B28 147 (.istore_n 1) 1 148 := ⟨by decide +kernel, rfl⟩
theorem d28_148 : DAt B28 148 (.goto 19) 3 151 := ⟨by decide +kernel, rfl⟩
theorem d28_151 : DAt B28 151 (.aload_n 0) 1 152 := ⟨by decide +kernel, rfl⟩
theorem d28_152 : DAt B28 152 (.getfield 53) 3 155 := ⟨by decide +kernel, rfl⟩
theorem d28_155 : DAt B28 155 (.iload_n 3) 1 156 := ⟨by decide +kernel, rfl⟩
theorem d28_156 : DAt B28 156 (.baload) 1 157 := ⟨by decide +kernel, rfl⟩
theorem d28_157 : DAt B28 157 (.ifCond .ne 5) 3 160 := ⟨by decide +kernel, rfl⟩
theorem d28_160 : DAt B28 160 (.iload_n 3) 1 161 := ⟨by decide +kernel, rfl⟩
theorem d28_161 : DAt B28 161 (.ireturn) 1 162 := ⟨by decide +kernel, rfl⟩
theorem d28_162 : DAt B28 162 (.aload_n 0) 1 163 := ⟨by decide +kernel, rfl⟩
theorem d28_163 : DAt B28 163 (.iload_n 3) 1 164 := ⟨by decide +kernel, rfl⟩
theorem d28_164 : DAt B28 164 (.invokevirtual 144) 3 167 := ⟨by decide +kernel, rfl⟩
theorem d28_167 : DAt B28 167 (.iinc 2 1) 3 170 := ⟨by decide +kernel, rfl⟩
theorem d28_170 : DAt B28 170 (.goto (-166)) 3 173 := ⟨by decide +kernel, rfl⟩
theorem d28_173 : DAt B28 173 (.iload_n 1) 1 174 := ⟨by decide +kernel, rfl⟩
theorem d28_174 : DAt B28 174 (.ifCond .lt 5) 3 177 := ⟨by decide +kernel, rfl⟩
theorem d28_177 : DAt B28 177 (.iload_n 1) 1 178 := ⟨by decide +kernel, rfl⟩
theorem d28_178 : DAt B28 178 (.ireturn) 1 179 := ⟨by decide +kernel, rfl⟩
theorem d28_179 : DAt B28 179 (.aload_n 0) 1 180 := ⟨by decide +kernel, rfl⟩
theorem d28_180 : DAt B28 180 (.getfield 91) 3 183 := ⟨by decide +kernel, rfl⟩
theorem d28_183 : DAt B28 183 (.istore_n 2) 1 184 := ⟨by decide +kernel, rfl⟩
theorem d28_184 : DAt B28 184 (.aload_n 0) 1 185 := ⟨by decide +kernel, rfl⟩
theorem d28_185 : DAt B28 185 (.aload_n 0) 1 186 := ⟨by decide +kernel, rfl⟩
theorem d28_186 : DAt B28 186 (.getfield 91) 3 189 := ⟨by decide +kernel, rfl⟩
theorem d28_189 : DAt B28 189 (.iconst 1) 1 190 := ⟨by decide +kernel, rfl⟩
theorem d28_190 : DAt B28 190 (.iadd) 1 191 := ⟨by decide +kernel, rfl⟩
theorem d28_191 : DAt B28 191 (.aload_n 0) 1 192 := ⟨by decide +kernel, rfl⟩
theorem d28_192 : DAt B28 192 (.getfield 76) 3 195 := ⟨by decide +kernel, rfl⟩
theorem d28_195 : DAt B28 195 (.irem) 1 196 := ⟨by decide +kernel, rfl⟩
theorem d28_196 : DAt B28 196 (.putfield 91) 3 199 := ⟨by decide +kernel, rfl⟩
theorem d28_199 : DAt B28 199 (.iload_n 2) 1 200 := ⟨by decide +kernel, rfl⟩
theorem d28_200 : DAt B28 200 (.ireturn) 1 201 := ⟨by decide +kernel, rfl⟩
def B29 : Bdy := ((⟨"WsClockPager", "evictFrame", "(I)V"⟩ : MethodName), prog_1_method_29_code, 3, none, ({ frames := 2, cells := 0, slots := 0, locals := 30 } : Room))
theorem d29_0 : DAt B29 0 (.aload_n 0) 1 1 := ⟨by decide +kernel, rfl⟩
theorem d29_1 : DAt B29 1 (.getfield 47) 3 4 := ⟨by decide +kernel, rfl⟩
theorem d29_4 : DAt B29 4 (.iload_n 1) 1 5 := ⟨by decide +kernel, rfl⟩
theorem d29_5 : DAt B29 5 (.iaload) 1 6 := ⟨by decide +kernel, rfl⟩
theorem d29_6 : DAt B29 6 (.istore_n 2) 1 7 := ⟨by decide +kernel, rfl⟩
theorem d29_7 : DAt B29 7 (.iload_n 2) 1 8 := ⟨by decide +kernel, rfl⟩
theorem d29_8 : DAt B29 8 (.ifCond .ge 4) 3 11 := ⟨by decide +kernel, rfl⟩
theorem d29_11 : DAt B29 11 (.return_) 1 12 := ⟨by decide +kernel, rfl⟩
theorem d29_12 : DAt B29 12 (.aload_n 0) 1 13 := ⟨by decide +kernel, rfl⟩
theorem d29_13 : DAt B29 13 (.getfield 53) 3 16 := ⟨by decide +kernel, rfl⟩
theorem d29_16 : DAt B29 16 (.iload_n 1) 1 17 := ⟨by decide +kernel, rfl⟩
theorem d29_17 : DAt B29 17 (.baload) 1 18 := ⟨by decide +kernel, rfl⟩
theorem d29_18 : DAt B29 18 (.ifCond .eq 8) 3 21 := ⟨by decide +kernel, rfl⟩
theorem d29_21 : DAt B29 21 (.aload_n 0) 1 22 := ⟨by decide +kernel, rfl⟩
theorem d29_22 : DAt B29 22 (.iload_n 1) 1 23 := ⟨by decide +kernel, rfl⟩
theorem d29_23 : DAt B29 23 (.invokevirtual 144) 3 26 := ⟨by decide +kernel, rfl⟩
theorem d29_26 : DAt B29 26 (.aload_n 0) 1 27 := ⟨by decide +kernel, rfl⟩
theorem d29_27 : DAt B29 27 (.getfield 38) 3 30 := ⟨by decide +kernel, rfl⟩
theorem d29_30 : DAt B29 30 (.iload_n 2) 1 31 := ⟨by decide +kernel, rfl⟩
theorem d29_31 : DAt B29 31 (.iconst (-1)) 1 32 := ⟨by decide +kernel, rfl⟩
theorem d29_32 : DAt B29 32 (.iastore) 1 33 := ⟨by decide +kernel, rfl⟩
theorem d29_33 : DAt B29 33 (.aload_n 0) 1 34 := ⟨by decide +kernel, rfl⟩
theorem d29_34 : DAt B29 34 (.getfield 47) 3 37 := ⟨by decide +kernel, rfl⟩
theorem d29_37 : DAt B29 37 (.iload_n 1) 1 38 := ⟨by decide +kernel, rfl⟩
theorem d29_38 : DAt B29 38 (.iconst (-1)) 1 39 := ⟨by decide +kernel, rfl⟩
theorem d29_39 : DAt B29 39 (.iastore) 1 40 := ⟨by decide +kernel, rfl⟩
theorem d29_40 : DAt B29 40 (.aload_n 0) 1 41 := ⟨by decide +kernel, rfl⟩
theorem d29_41 : DAt B29 41 (.getfield 50) 3 44 := ⟨by decide +kernel, rfl⟩
theorem d29_44 : DAt B29 44 (.iload_n 1) 1 45 := ⟨by decide +kernel, rfl⟩
theorem d29_45 : DAt B29 45 (.iconst 0) 1 46 := ⟨by decide +kernel, rfl⟩
theorem d29_46 : DAt B29 46 (.bastore) 1 47 := ⟨by decide +kernel, rfl⟩
theorem d29_47 : DAt B29 47 (.aload_n 0) 1 48 := ⟨by decide +kernel, rfl⟩
theorem d29_48 : DAt B29 48 (.getfield 53) 3 51 := ⟨by decide +kernel, rfl⟩
theorem d29_51 : DAt B29 51 (.iload_n 1) 1 52 := ⟨by decide +kernel, rfl⟩
theorem d29_52 : DAt B29 52 (.iconst 0) 1 53 := ⟨by decide +kernel, rfl⟩
theorem d29_53 : DAt B29 53 (.bastore) 1 54 := ⟨by decide +kernel, rfl⟩
theorem d29_54 : DAt B29 54 (.return_) 1 55 := ⟨by decide +kernel, rfl⟩
def B10 : Bdy := ((⟨"WsClockPager", "fillFrame", "(II)V"⟩ : MethodName), prog_1_method_27_code, 6, none, ({ frames := 0, cells := 0, slots := 0, locals := 0 } : Room))
theorem d10_0 : DAt B10 0 (.aload_n 0) 1 1 := ⟨by decide +kernel, rfl⟩
theorem d10_1 : DAt B10 1 (.getfield 41) 3 4 := ⟨by decide +kernel, rfl⟩
theorem d10_4 : DAt B10 4 (.iload_n 2) 1 5 := ⟨by decide +kernel, rfl⟩
theorem d10_5 : DAt B10 5 (.iaload) 1 6 := ⟨by decide +kernel, rfl⟩
theorem d10_6 : DAt B10 6 (.istore_n 3) 1 7 := ⟨by decide +kernel, rfl⟩
theorem d10_7 : DAt B10 7 (.iload_n 1) 1 8 := ⟨by decide +kernel, rfl⟩
theorem d10_8 : DAt B10 8 (.iconst 4) 1 9 := ⟨by decide +kernel, rfl⟩
theorem d10_9 : DAt B10 9 (.imul) 1 10 := ⟨by decide +kernel, rfl⟩
theorem d10_10 : DAt B10 10 (.istore 4) 2 12 := ⟨by decide +kernel, rfl⟩
theorem d10_12 : DAt B10 12 (.iconst 0) 1 13 := ⟨by decide +kernel, rfl⟩
theorem d10_13 : DAt B10 13 (.istore 5) 2 15 := ⟨by decide +kernel, rfl⟩
theorem d10_15 : DAt B10 15 (.iload 5) 2 17 := ⟨by decide +kernel, rfl⟩
theorem d10_17 : DAt B10 17 (.iconst 4) 1 18 := ⟨by decide +kernel, rfl⟩
theorem d10_18 : DAt B10 18 (.if_icmp .ge 48) 3 21 := ⟨by decide +kernel, rfl⟩
theorem d10_21 : DAt B10 21 (.iload_n 3) 1 22 := ⟨by decide +kernel, rfl⟩
theorem d10_22 : DAt B10 22 (.ifCond .lt 27) 3 25 := ⟨by decide +kernel, rfl⟩
theorem d10_25 : DAt B10 25 (.aload_n 0) 1 26 := ⟨by decide +kernel, rfl⟩
theorem d10_26 : DAt B10 26 (.getfield 56) 3 29 := ⟨by decide +kernel, rfl⟩
theorem d10_29 : DAt B10 29 (.iload 4) 2 31 := ⟨by decide +kernel, rfl⟩
theorem d10_31 : DAt B10 31 (.iload 5) 2 33 := ⟨by decide +kernel, rfl⟩
theorem d10_33 : DAt B10 33 (.iadd) 1 34 := ⟨by decide +kernel, rfl⟩
theorem d10_34 : DAt B10 34 (.aload_n 0) 1 35 := ⟨by decide +kernel, rfl⟩
theorem d10_35 : DAt B10 35 (.getfield 62) 3 38 := ⟨by decide +kernel, rfl⟩
theorem d10_38 : DAt B10 38 (.iload_n 3) 1 39 := ⟨by decide +kernel, rfl⟩
theorem d10_39 : DAt B10 39 (.iconst 4) 1 40 := ⟨by decide +kernel, rfl⟩
theorem d10_40 : DAt B10 40 (.imul) 1 41 := ⟨by decide +kernel, rfl⟩
theorem d10_41 : DAt B10 41 (.iload 5) 2 43 := ⟨by decide +kernel, rfl⟩
theorem d10_43 : DAt B10 43 (.iadd) 1 44 := ⟨by decide +kernel, rfl⟩
theorem d10_44 : DAt B10 44 (.iaload) 1 45 := ⟨by decide +kernel, rfl⟩
theorem d10_45 : DAt B10 45 (.iastore) 1 46 := ⟨by decide +kernel, rfl⟩
theorem d10_46 : DAt B10 46 (.goto 14) 3 49 := ⟨by decide +kernel, rfl⟩
theorem d10_49 : DAt B10 49 (.aload_n 0) 1 50 := ⟨by decide +kernel, rfl⟩
theorem d10_50 : DAt B10 50 (.getfield 56) 3 53 := ⟨by decide +kernel, rfl⟩
theorem d10_53 : DAt B10 53 (.iload 4) 2 55 := ⟨by decide +kernel, rfl⟩
theorem d10_55 : DAt B10 55 (.iload 5) 2 57 := ⟨by decide +kernel, rfl⟩
theorem d10_57 : DAt B10 57 (.iadd) 1 58 := ⟨by decide +kernel, rfl⟩
theorem d10_58 : DAt B10 58 (.iconst 0) 1 59 := ⟨by decide +kernel, rfl⟩
theorem d10_59 : DAt B10 59 (.iastore) 1 60 := ⟨by decide +kernel, rfl⟩
theorem d10_60 : DAt B10 60 (.iinc 5 1) 3 63 := ⟨by decide +kernel, rfl⟩
theorem d10_63 : DAt B10 63 (.goto (-48)) 3 66 := ⟨by decide +kernel, rfl⟩
theorem d10_66 : DAt B10 66 (.aload_n 0) 1 67 := ⟨by decide +kernel, rfl⟩
theorem d10_67 : DAt B10 67 (.getfield 47) 3 70 := ⟨by decide +kernel, rfl⟩
theorem d10_70 : DAt B10 70 (.iload_n 1) 1 71 := ⟨by decide +kernel, rfl⟩
theorem d10_71 : DAt B10 71 (.iload_n 2) 1 72 := ⟨by decide +kernel, rfl⟩
theorem d10_72 : DAt B10 72 (.iastore) 1 73 := ⟨by decide +kernel, rfl⟩
theorem d10_73 : DAt B10 73 (.aload_n 0) 1 74 := ⟨by decide +kernel, rfl⟩
theorem d10_74 : DAt B10 74 (.getfield 50) 3 77 := ⟨by decide +kernel, rfl⟩
theorem d10_77 : DAt B10 77 (.iload_n 1) 1 78 := ⟨by decide +kernel, rfl⟩
theorem d10_78 : DAt B10 78 (.iconst 0) 1 79 := ⟨by decide +kernel, rfl⟩
theorem d10_79 : DAt B10 79 (.bastore) 1 80 := ⟨by decide +kernel, rfl⟩
theorem d10_80 : DAt B10 80 (.aload_n 0) 1 81 := ⟨by decide +kernel, rfl⟩
theorem d10_81 : DAt B10 81 (.getfield 53) 3 84 := ⟨by decide +kernel, rfl⟩
theorem d10_84 : DAt B10 84 (.iload_n 1) 1 85 := ⟨by decide +kernel, rfl⟩
theorem d10_85 : DAt B10 85 (.iconst 0) 1 86 := ⟨by decide +kernel, rfl⟩
theorem d10_86 : DAt B10 86 (.bastore) 1 87 := ⟨by decide +kernel, rfl⟩
theorem d10_87 : DAt B10 87 (.aload_n 0) 1 88 := ⟨by decide +kernel, rfl⟩
theorem d10_88 : DAt B10 88 (.getfield 38) 3 91 := ⟨by decide +kernel, rfl⟩
theorem d10_91 : DAt B10 91 (.iload_n 2) 1 92 := ⟨by decide +kernel, rfl⟩
theorem d10_92 : DAt B10 92 (.iload_n 1) 1 93 := ⟨by decide +kernel, rfl⟩
theorem d10_93 : DAt B10 93 (.iastore) 1 94 := ⟨by decide +kernel, rfl⟩
theorem d10_94 : DAt B10 94 (.aload_n 0) 1 95 := ⟨by decide +kernel, rfl⟩
theorem d10_95 : DAt B10 95 (.getfield 44) 3 98 := ⟨by decide +kernel, rfl⟩
theorem d10_98 : DAt B10 98 (.iload_n 2) 1 99 := ⟨by decide +kernel, rfl⟩
theorem d10_99 : DAt B10 99 (.aload_n 0) 1 100 := ⟨by decide +kernel, rfl⟩
theorem d10_100 : DAt B10 100 (.getfield 13) 3 103 := ⟨by decide +kernel, rfl⟩
theorem d10_103 : DAt B10 103 (.iload_n 2) 1 104 := ⟨by decide +kernel, rfl⟩
theorem d10_104 : DAt B10 104 (.bipush 16) 2 106 := ⟨by decide +kernel, rfl⟩
theorem d10_106 : DAt B10 106 (.idiv) 1 107 := ⟨by decide +kernel, rfl⟩
theorem d10_107 : DAt B10 107 (.iaload) 1 108 := ⟨by decide +kernel, rfl⟩
theorem d10_108 : DAt B10 108 (.iastore) 1 109 := ⟨by decide +kernel, rfl⟩
theorem d10_109 : DAt B10 109 (.return_) 1 110 := ⟨by decide +kernel, rfl⟩
def B8 : Bdy := ((⟨"WsClockPager", "ensureResident", "(II)I"⟩ : MethodName), prog_1_method_25_code, 5, (some .int), ({ frames := 3, cells := 0, slots := 0, locals := 48 } : Room))
theorem d8_0 : DAt B8 0 (.iload_n 1) 1 1 := ⟨by decide +kernel, rfl⟩
theorem d8_1 : DAt B8 1 (.bipush 16) 2 3 := ⟨by decide +kernel, rfl⟩
theorem d8_3 : DAt B8 3 (.imul) 1 4 := ⟨by decide +kernel, rfl⟩
theorem d8_4 : DAt B8 4 (.iload_n 2) 1 5 := ⟨by decide +kernel, rfl⟩
theorem d8_5 : DAt B8 5 (.iadd) 1 6 := ⟨by decide +kernel, rfl⟩
theorem d8_6 : DAt B8 6 (.istore_n 3) 1 7 := ⟨by decide +kernel, rfl⟩
theorem d8_7 : DAt B8 7 (.aload_n 0) 1 8 := ⟨by decide +kernel, rfl⟩
theorem d8_8 : DAt B8 8 (.getfield 38) 3 11 := ⟨by decide +kernel, rfl⟩
theorem d8_11 : DAt B8 11 (.iload_n 3) 1 12 := ⟨by decide +kernel, rfl⟩
theorem d8_12 : DAt B8 12 (.iaload) 1 13 := ⟨by decide +kernel, rfl⟩
theorem d8_13 : DAt B8 13 (.istore 4) 2 15 := ⟨by decide +kernel, rfl⟩
theorem d8_15 : DAt B8 15 (.iload 4) 2 17 := ⟨by decide +kernel, rfl⟩
theorem d8_17 : DAt B8 17 (.ifCond .lt 6) 3 20 := ⟨by decide +kernel, rfl⟩
theorem d8_20 : DAt B8 20 (.iload 4) 2 22 := ⟨by decide +kernel, rfl⟩
theorem d8_22 : DAt B8 22 (.ireturn) 1 23 := ⟨by decide +kernel, rfl⟩
theorem d8_23 : DAt B8 23 (.aload_n 0) 1 24 := ⟨by decide +kernel, rfl⟩
theorem d8_24 : DAt B8 24 (.invokevirtual 132) 3 27 := ⟨by decide +kernel, rfl⟩
theorem d8_27 : DAt B8 27 (.istore 4) 2 29 := ⟨by decide +kernel, rfl⟩
theorem d8_29 : DAt B8 29 (.iload 4) 2 31 := ⟨by decide +kernel, rfl⟩
theorem d8_31 : DAt B8 31 (.ifCond .ge 15) 3 34 := ⟨by decide +kernel, rfl⟩
theorem d8_34 : DAt B8 34 (.aload_n 0) 1 35 := ⟨by decide +kernel, rfl⟩
theorem d8_35 : DAt B8 35 (.invokevirtual 135) 3 38 := ⟨by decide +kernel, rfl⟩
theorem d8_38 : DAt B8 38 (.istore 4) 2 40 := ⟨by decide +kernel, rfl⟩
theorem d8_40 : DAt B8 40 (.aload_n 0) 1 41 := ⟨by decide +kernel, rfl⟩
theorem d8_41 : DAt B8 41 (.iload 4) 2 43 := ⟨by decide +kernel, rfl⟩
theorem d8_43 : DAt B8 43 (.invokevirtual 138) 3 46 := ⟨by decide +kernel, rfl⟩
theorem d8_46 : DAt B8 46 (.aload_n 0) 1 47 := ⟨by decide +kernel, rfl⟩
theorem d8_47 : DAt B8 47 (.iload 4) 2 49 := ⟨by decide +kernel, rfl⟩
theorem d8_49 : DAt B8 49 (.iload_n 3) 1 50 := ⟨by decide +kernel, rfl⟩
theorem d8_50 : DAt B8 50 (.invokevirtual 141) 3 53 := ⟨by decide +kernel, rfl⟩
theorem d8_53 : DAt B8 53 (.iload 4) 2 55 := ⟨by decide +kernel, rfl⟩
theorem d8_55 : DAt B8 55 (.ireturn) 1 56 := ⟨by decide +kernel, rfl⟩
def B12 : Bdy := ((⟨"WsClockPager", "pushWindow", "(II)V"⟩ : MethodName), prog_1_method_22_code, 6, none, ({ frames := 0, cells := 0, slots := 0, locals := 0 } : Room))
theorem d12_0 : DAt B12 0 (.iload_n 1) 1 1 := ⟨by decide +kernel, rfl⟩
theorem d12_1 : DAt B12 1 (.bipush 16) 2 3 := ⟨by decide +kernel, rfl⟩
theorem d12_3 : DAt B12 3 (.imul) 1 4 := ⟨by decide +kernel, rfl⟩
theorem d12_4 : DAt B12 4 (.istore_n 3) 1 5 := ⟨by decide +kernel, rfl⟩
theorem d12_5 : DAt B12 5 (.aload_n 0) 1 6 := ⟨by decide +kernel, rfl⟩
theorem d12_6 : DAt B12 6 (.getfield 20) 3 9 := ⟨by decide +kernel, rfl⟩
theorem d12_9 : DAt B12 9 (.iload_n 1) 1 10 := ⟨by decide +kernel, rfl⟩
theorem d12_10 : DAt B12 10 (.iaload) 1 11 := ⟨by decide +kernel, rfl⟩
theorem d12_11 : DAt B12 11 (.istore 4) 2 13 := ⟨by decide +kernel, rfl⟩
theorem d12_13 : DAt B12 13 (.aload_n 0) 1 14 := ⟨by decide +kernel, rfl⟩
theorem d12_14 : DAt B12 14 (.getfield 17) 3 17 := ⟨by decide +kernel, rfl⟩
theorem d12_17 : DAt B12 17 (.iload_n 1) 1 18 := ⟨by decide +kernel, rfl⟩
theorem d12_18 : DAt B12 18 (.iaload) 1 19 := ⟨by decide +kernel, rfl⟩
theorem d12_19 : DAt B12 19 (.aload_n 0) 1 20 := ⟨by decide +kernel, rfl⟩
theorem d12_20 : DAt B12 20 (.getfield 79) 3 23 := ⟨by decide +kernel, rfl⟩
theorem d12_23 : DAt B12 23 (.if_icmp .lt 63) 3 26 := ⟨by decide +kernel, rfl⟩
theorem d12_26 : DAt B12 26 (.aload_n 0) 1 27 := ⟨by decide +kernel, rfl⟩
theorem d12_27 : DAt B12 27 (.getfield 29) 3 30 := ⟨by decide +kernel, rfl⟩
theorem d12_30 : DAt B12 30 (.iload_n 3) 1 31 := ⟨by decide +kernel, rfl⟩
theorem d12_31 : DAt B12 31 (.iload 4) 2 33 := ⟨by decide +kernel, rfl⟩
theorem d12_33 : DAt B12 33 (.iadd) 1 34 := ⟨by decide +kernel, rfl⟩
theorem d12_34 : DAt B12 34 (.iaload) 1 35 := ⟨by decide +kernel, rfl⟩
theorem d12_35 : DAt B12 35 (.istore 5) 2 37 := ⟨by decide +kernel, rfl⟩
theorem d12_37 : DAt B12 37 (.aload_n 0) 1 38 := ⟨by decide +kernel, rfl⟩
theorem d12_38 : DAt B12 38 (.getfield 32) 3 41 := ⟨by decide +kernel, rfl⟩
theorem d12_41 : DAt B12 41 (.iload_n 3) 1 42 := ⟨by decide +kernel, rfl⟩
theorem d12_42 : DAt B12 42 (.iload 5) 2 44 := ⟨by decide +kernel, rfl⟩
theorem d12_44 : DAt B12 44 (.iadd) 1 45 := ⟨by decide +kernel, rfl⟩
theorem d12_45 : DAt B12 45 (.aload_n 0) 1 46 := ⟨by decide +kernel, rfl⟩
theorem d12_46 : DAt B12 46 (.getfield 32) 3 49 := ⟨by decide +kernel, rfl⟩
theorem d12_49 : DAt B12 49 (.iload_n 3) 1 50 := ⟨by decide +kernel, rfl⟩
theorem d12_50 : DAt B12 50 (.iload 5) 2 52 := ⟨by decide +kernel, rfl⟩
theorem d12_52 : DAt B12 52 (.iadd) 1 53 := ⟨by decide +kernel, rfl⟩
theorem d12_53 : DAt B12 53 (.iaload) 1 54 := ⟨by decide +kernel, rfl⟩
theorem d12_54 : DAt B12 54 (.iconst 1) 1 55 := ⟨by decide +kernel, rfl⟩
theorem d12_55 : DAt B12 55 (.isub) 1 56 := ⟨by decide +kernel, rfl⟩
theorem d12_56 : DAt B12 56 (.iastore) 1 57 := ⟨by decide +kernel, rfl⟩
theorem d12_57 : DAt B12 57 (.aload_n 0) 1 58 := ⟨by decide +kernel, rfl⟩
theorem d12_58 : DAt B12 58 (.getfield 32) 3 61 := ⟨by decide +kernel, rfl⟩
theorem d12_61 : DAt B12 61 (.iload_n 3) 1 62 := ⟨by decide +kernel, rfl⟩
theorem d12_62 : DAt B12 62 (.iload 5) 2 64 := ⟨by decide +kernel, rfl⟩
theorem d12_64 : DAt B12 64 (.iadd) 1 65 := ⟨by decide +kernel, rfl⟩
theorem d12_65 : DAt B12 65 (.iaload) 1 66 := ⟨by decide +kernel, rfl⟩
theorem d12_66 : DAt B12 66 (.ifCond .ne 17) 3 69 := ⟨by decide +kernel, rfl⟩
theorem d12_69 : DAt B12 69 (.aload_n 0) 1 70 := ⟨by decide +kernel, rfl⟩
theorem d12_70 : DAt B12 70 (.getfield 23) 3 73 := ⟨by decide +kernel, rfl⟩
theorem d12_73 : DAt B12 73 (.iload_n 1) 1 74 := ⟨by decide +kernel, rfl⟩
theorem d12_74 : DAt B12 74 (.aload_n 0) 1 75 := ⟨by decide +kernel, rfl⟩
theorem d12_75 : DAt B12 75 (.getfield 23) 3 78 := ⟨by decide +kernel, rfl⟩
theorem d12_78 : DAt B12 78 (.iload_n 1) 1 79 := ⟨by decide +kernel, rfl⟩
theorem d12_79 : DAt B12 79 (.iaload) 1 80 := ⟨by decide +kernel, rfl⟩
theorem d12_80 : DAt B12 80 (.iconst 1) 1 81 := ⟨by decide +kernel, rfl⟩
theorem d12_81 : DAt B12 81 (.isub) 1 82 := ⟨by decide +kernel, rfl⟩
theorem d12_82 : DAt B12 82 (.iastore) 1 83 := ⟨by decide +kernel, rfl⟩
theorem d12_83 : DAt B12 83 (.goto 17) 3 86 := ⟨by decide +kernel, rfl⟩
theorem d12_86 : DAt B12 86 (.aload_n 0) 1 87 := ⟨by decide +kernel, rfl⟩
theorem d12_87 : DAt B12 87 (.getfield 17) 3 90 := ⟨by decide +kernel, rfl⟩
theorem d12_90 : DAt B12 90 (.iload_n 1) 1 91 := ⟨by decide +kernel, rfl⟩
theorem d12_91 : DAt B12 91 (.aload_n 0) 1 92 := ⟨by decide +kernel, rfl⟩
theorem d12_92 : DAt B12 92 (.getfield 17) 3 95 := ⟨by decide +kernel, rfl⟩
theorem d12_95 : DAt B12 95 (.iload_n 1) 1 96 := ⟨by decide +kernel, rfl⟩
theorem d12_96 : DAt B12 96 (.iaload) 1 97 := ⟨by decide +kernel, rfl⟩
theorem d12_97 : DAt B12 97 (.iconst 1) 1 98 := ⟨by decide +kernel, rfl⟩
theorem d12_98 : DAt B12 98 (.iadd) 1 99 := ⟨by decide +kernel, rfl⟩
theorem d12_99 : DAt B12 99 (.iastore) 1 100 := ⟨by decide +kernel, rfl⟩
theorem d12_100 : DAt B12 100 (.aload_n 0) 1 101 := ⟨by decide +kernel, rfl⟩
theorem d12_101 : DAt B12 101 (.getfield 29) 3 104 := ⟨by decide +kernel, rfl⟩
theorem d12_104 : DAt B12 104 (.iload_n 3) 1 105 := ⟨by decide +kernel, rfl⟩
theorem d12_105 : DAt B12 105 (.iload 4) 2 107 := ⟨by decide +kernel, rfl⟩
theorem d12_107 : DAt B12 107 (.iadd) 1 108 := ⟨by decide +kernel, rfl⟩
theorem d12_108 : DAt B12 108 (.iload_n 2) 1 109 := ⟨by decide +kernel, rfl⟩
theorem d12_109 : DAt B12 109 (.iastore) 1 110 := ⟨by decide +kernel, rfl⟩
theorem d12_110 : DAt B12 110 (.aload_n 0) 1 111 := ⟨by decide +kernel, rfl⟩
theorem d12_111 : DAt B12 111 (.getfield 32) 3 114 := ⟨by decide +kernel, rfl⟩
theorem d12_114 : DAt B12 114 (.iload_n 3) 1 115 := ⟨by decide +kernel, rfl⟩
theorem d12_115 : DAt B12 115 (.iload_n 2) 1 116 := ⟨by decide +kernel, rfl⟩
theorem d12_116 : DAt B12 116 (.iadd) 1 117 := ⟨by decide +kernel, rfl⟩
theorem d12_117 : DAt B12 117 (.iaload) 1 118 := ⟨by decide +kernel, rfl⟩
theorem d12_118 : DAt B12 118 (.ifCond .ne 17) 3 121 := ⟨by decide +kernel, rfl⟩
theorem d12_121 : DAt B12 121 (.aload_n 0) 1 122 := ⟨by decide +kernel, rfl⟩
theorem d12_122 : DAt B12 122 (.getfield 23) 3 125 := ⟨by decide +kernel, rfl⟩
theorem d12_125 : DAt B12 125 (.iload_n 1) 1 126 := ⟨by decide +kernel, rfl⟩
theorem d12_126 : DAt B12 126 (.aload_n 0) 1 127 := ⟨by decide +kernel, rfl⟩
theorem d12_127 : DAt B12 127 (.getfield 23) 3 130 := ⟨by decide +kernel, rfl⟩
theorem d12_130 : DAt B12 130 (.iload_n 1) 1 131 := ⟨by decide +kernel, rfl⟩
theorem d12_131 : DAt B12 131 (.iaload) 1 132 := ⟨by decide +kernel, rfl⟩
theorem d12_132 : DAt B12 132 (.iconst 1) 1 133 := ⟨by decide +kernel, rfl⟩
theorem d12_133 : DAt B12 133 (.iadd) 1 134 := ⟨by decide +kernel, rfl⟩
theorem d12_134 : DAt B12 134 (.iastore) 1 135 := ⟨by decide +kernel, rfl⟩
theorem d12_135 : DAt B12 135 (.aload_n 0) 1 136 := ⟨by decide +kernel, rfl⟩
theorem d12_136 : DAt B12 136 (.getfield 32) 3 139 := ⟨by decide +kernel, rfl⟩
theorem d12_139 : DAt B12 139 (.iload_n 3) 1 140 := ⟨by decide +kernel, rfl⟩
theorem d12_140 : DAt B12 140 (.iload_n 2) 1 141 := ⟨by decide +kernel, rfl⟩
theorem d12_141 : DAt B12 141 (.iadd) 1 142 := ⟨by decide +kernel, rfl⟩
theorem d12_142 : DAt B12 142 (.aload_n 0) 1 143 := ⟨by decide +kernel, rfl⟩
theorem d12_143 : DAt B12 143 (.getfield 32) 3 146 := ⟨by decide +kernel, rfl⟩
theorem d12_146 : DAt B12 146 (.iload_n 3) 1 147 := ⟨by decide +kernel, rfl⟩
theorem d12_147 : DAt B12 147 (.iload_n 2) 1 148 := ⟨by decide +kernel, rfl⟩
theorem d12_148 : DAt B12 148 (.iadd) 1 149 := ⟨by decide +kernel, rfl⟩
theorem d12_149 : DAt B12 149 (.iaload) 1 150 := ⟨by decide +kernel, rfl⟩
theorem d12_150 : DAt B12 150 (.iconst 1) 1 151 := ⟨by decide +kernel, rfl⟩
theorem d12_151 : DAt B12 151 (.iadd) 1 152 := ⟨by decide +kernel, rfl⟩
theorem d12_152 : DAt B12 152 (.iastore) 1 153 := ⟨by decide +kernel, rfl⟩
theorem d12_153 : DAt B12 153 (.aload_n 0) 1 154 := ⟨by decide +kernel, rfl⟩
theorem d12_154 : DAt B12 154 (.getfield 20) 3 157 := ⟨by decide +kernel, rfl⟩
theorem d12_157 : DAt B12 157 (.iload_n 1) 1 158 := ⟨by decide +kernel, rfl⟩
theorem d12_158 : DAt B12 158 (.iload 4) 2 160 := ⟨by decide +kernel, rfl⟩
theorem d12_160 : DAt B12 160 (.iconst 1) 1 161 := ⟨by decide +kernel, rfl⟩
theorem d12_161 : DAt B12 161 (.iadd) 1 162 := ⟨by decide +kernel, rfl⟩
theorem d12_162 : DAt B12 162 (.aload_n 0) 1 163 := ⟨by decide +kernel, rfl⟩
theorem d12_163 : DAt B12 163 (.getfield 79) 3 166 := ⟨by decide +kernel, rfl⟩
theorem d12_166 : DAt B12 166 (.irem) 1 167 := ⟨by decide +kernel, rfl⟩
theorem d12_167 : DAt B12 167 (.iastore) 1 168 := ⟨by decide +kernel, rfl⟩
theorem d12_168 : DAt B12 168 (.return_) 1 169 := ⟨by decide +kernel, rfl⟩
def B11 : Bdy := ((⟨"WsClockPager", "recordReference", "(II)V"⟩ : MethodName), prog_1_method_21_code, 5, none, ({ frames := 1, cells := 0, slots := 0, locals := 17 } : Room))
theorem d11_0 : DAt B11 0 (.iload_n 1) 1 1 := ⟨by decide +kernel, rfl⟩
theorem d11_1 : DAt B11 1 (.bipush 16) 2 3 := ⟨by decide +kernel, rfl⟩
theorem d11_3 : DAt B11 3 (.imul) 1 4 := ⟨by decide +kernel, rfl⟩
theorem d11_4 : DAt B11 4 (.iload_n 2) 1 5 := ⟨by decide +kernel, rfl⟩
theorem d11_5 : DAt B11 5 (.iadd) 1 6 := ⟨by decide +kernel, rfl⟩
theorem d11_6 : DAt B11 6 (.istore_n 3) 1 7 := ⟨by decide +kernel, rfl⟩
theorem d11_7 : DAt B11 7 (.aload_n 0) 1 8 := ⟨by decide +kernel, rfl⟩
theorem d11_8 : DAt B11 8 (.getfield 38) 3 11 := ⟨by decide +kernel, rfl⟩
theorem d11_11 : DAt B11 11 (.iload_n 3) 1 12 := ⟨by decide +kernel, rfl⟩
theorem d11_12 : DAt B11 12 (.iaload) 1 13 := ⟨by decide +kernel, rfl⟩
theorem d11_13 : DAt B11 13 (.istore 4) 2 15 := ⟨by decide +kernel, rfl⟩
theorem d11_15 : DAt B11 15 (.iload 4) 2 17 := ⟨by decide +kernel, rfl⟩
theorem d11_17 : DAt B11 17 (.ifCond .lt 11) 3 20 := ⟨by decide +kernel, rfl⟩
theorem d11_20 : DAt B11 20 (.aload_n 0) 1 21 := ⟨by decide +kernel, rfl⟩
theorem d11_21 : DAt B11 21 (.getfield 50) 3 24 := ⟨by decide +kernel, rfl⟩
theorem d11_24 : DAt B11 24 (.iload 4) 2 26 := ⟨by decide +kernel, rfl⟩
theorem d11_26 : DAt B11 26 (.iconst 1) 1 27 := ⟨by decide +kernel, rfl⟩
theorem d11_27 : DAt B11 27 (.bastore) 1 28 := ⟨by decide +kernel, rfl⟩
theorem d11_28 : DAt B11 28 (.aload_n 0) 1 29 := ⟨by decide +kernel, rfl⟩
theorem d11_29 : DAt B11 29 (.getfield 13) 3 32 := ⟨by decide +kernel, rfl⟩
theorem d11_32 : DAt B11 32 (.iload_n 1) 1 33 := ⟨by decide +kernel, rfl⟩
theorem d11_33 : DAt B11 33 (.aload_n 0) 1 34 := ⟨by decide +kernel, rfl⟩
theorem d11_34 : DAt B11 34 (.getfield 13) 3 37 := ⟨by decide +kernel, rfl⟩
theorem d11_37 : DAt B11 37 (.iload_n 1) 1 38 := ⟨by decide +kernel, rfl⟩
theorem d11_38 : DAt B11 38 (.iaload) 1 39 := ⟨by decide +kernel, rfl⟩
theorem d11_39 : DAt B11 39 (.iconst 1) 1 40 := ⟨by decide +kernel, rfl⟩
theorem d11_40 : DAt B11 40 (.iadd) 1 41 := ⟨by decide +kernel, rfl⟩
theorem d11_41 : DAt B11 41 (.iastore) 1 42 := ⟨by decide +kernel, rfl⟩
theorem d11_42 : DAt B11 42 (.aload_n 0) 1 43 := ⟨by decide +kernel, rfl⟩
theorem d11_43 : DAt B11 43 (.getfield 44) 3 46 := ⟨by decide +kernel, rfl⟩
theorem d11_46 : DAt B11 46 (.iload_n 3) 1 47 := ⟨by decide +kernel, rfl⟩
theorem d11_47 : DAt B11 47 (.aload_n 0) 1 48 := ⟨by decide +kernel, rfl⟩
theorem d11_48 : DAt B11 48 (.getfield 13) 3 51 := ⟨by decide +kernel, rfl⟩
theorem d11_51 : DAt B11 51 (.iload_n 1) 1 52 := ⟨by decide +kernel, rfl⟩
theorem d11_52 : DAt B11 52 (.iaload) 1 53 := ⟨by decide +kernel, rfl⟩
theorem d11_53 : DAt B11 53 (.iastore) 1 54 := ⟨by decide +kernel, rfl⟩
theorem d11_54 : DAt B11 54 (.aload_n 0) 1 55 := ⟨by decide +kernel, rfl⟩
theorem d11_55 : DAt B11 55 (.iload_n 1) 1 56 := ⟨by decide +kernel, rfl⟩
theorem d11_56 : DAt B11 56 (.iload_n 2) 1 57 := ⟨by decide +kernel, rfl⟩
theorem d11_57 : DAt B11 57 (.invokevirtual 121) 3 60 := ⟨by decide +kernel, rfl⟩
theorem d11_60 : DAt B11 60 (.aload_n 0) 1 61 := ⟨by decide +kernel, rfl⟩
theorem d11_61 : DAt B11 61 (.getfield 35) 3 64 := ⟨by decide +kernel, rfl⟩
theorem d11_64 : DAt B11 64 (.iload_n 3) 1 65 := ⟨by decide +kernel, rfl⟩
theorem d11_65 : DAt B11 65 (.baload) 1 66 := ⟨by decide +kernel, rfl⟩
theorem d11_66 : DAt B11 66 (.ifCond .ne 24) 3 69 := ⟨by decide +kernel, rfl⟩
theorem d11_69 : DAt B11 69 (.aload_n 0) 1 70 := ⟨by decide +kernel, rfl⟩
theorem d11_70 : DAt B11 70 (.getfield 35) 3 73 := ⟨by decide +kernel, rfl⟩
theorem d11_73 : DAt B11 73 (.iload_n 3) 1 74 := ⟨by decide +kernel, rfl⟩
theorem d11_74 : DAt B11 74 (.iconst 1) 1 75 := ⟨by decide +kernel, rfl⟩
theorem d11_75 : DAt B11 75 (.bastore) 1 76 := ⟨by decide +kernel, rfl⟩
theorem d11_76 : DAt B11 76 (.aload_n 0) 1 77 := ⟨by decide +kernel, rfl⟩
theorem d11_77 : DAt B11 77 (.getfield 26) 3 80 := ⟨by decide +kernel, rfl⟩
theorem d11_80 : DAt B11 80 (.iload_n 1) 1 81 := ⟨by decide +kernel, rfl⟩
theorem d11_81 : DAt B11 81 (.aload_n 0) 1 82 := ⟨by decide +kernel, rfl⟩
theorem d11_82 : DAt B11 82 (.getfield 26) 3 85 := ⟨by decide +kernel, rfl⟩
theorem d11_85 : DAt B11 85 (.iload_n 1) 1 86 := ⟨by decide +kernel, rfl⟩
theorem d11_86 : DAt B11 86 (.iaload) 1 87 := ⟨by decide +kernel, rfl⟩
theorem d11_87 : DAt B11 87 (.iconst 1) 1 88 := ⟨by decide +kernel, rfl⟩
theorem d11_88 : DAt B11 88 (.iadd) 1 89 := ⟨by decide +kernel, rfl⟩
theorem d11_89 : DAt B11 89 (.iastore) 1 90 := ⟨by decide +kernel, rfl⟩
theorem d11_90 : DAt B11 90 (.return_) 1 91 := ⟨by decide +kernel, rfl⟩
def B25 : Bdy := ((⟨"WsClockPager", "load", "(II)J"⟩ : MethodName), prog_1_method_2_code, 7, (some .long), ({ frames := 4, cells := 0, slots := 0, locals := 64 } : Room))
theorem d25_0 : DAt B25 0 (.aload_n 0) 1 1 := ⟨by decide +kernel, rfl⟩
theorem d25_1 : DAt B25 1 (.iload_n 1) 1 2 := ⟨by decide +kernel, rfl⟩
theorem d25_2 : DAt B25 2 (.iload_n 2) 1 3 := ⟨by decide +kernel, rfl⟩
theorem d25_3 : DAt B25 3 (.invokevirtual 94) 3 6 := ⟨by decide +kernel, rfl⟩
theorem d25_6 : DAt B25 6 (.istore_n 3) 1 7 := ⟨by decide +kernel, rfl⟩
theorem d25_7 : DAt B25 7 (.iload_n 3) 1 8 := ⟨by decide +kernel, rfl⟩
theorem d25_8 : DAt B25 8 (.ifCond .eq 12) 3 11 := ⟨by decide +kernel, rfl⟩
theorem d25_11 : DAt B25 11 (.aload_n 0) 1 12 := ⟨by decide +kernel, rfl⟩
theorem d25_12 : DAt B25 12 (.iload_n 3) 1 13 := ⟨by decide +kernel, rfl⟩
theorem d25_13 : DAt B25 13 (.putfield 82) 3 16 := ⟨by decide +kernel, rfl⟩
theorem d25_16 : DAt B25 16 (.ldc2_w 98) 3 19 := ⟨by decide +kernel, rfl⟩
theorem d25_19 : DAt B25 19 (.lreturn) 1 20 := ⟨by decide +kernel, rfl⟩
theorem d25_20 : DAt B25 20 (.iload_n 2) 1 21 := ⟨by decide +kernel, rfl⟩
theorem d25_21 : DAt B25 21 (.iconst 4) 1 22 := ⟨by decide +kernel, rfl⟩
theorem d25_22 : DAt B25 22 (.idiv) 1 23 := ⟨by decide +kernel, rfl⟩
theorem d25_23 : DAt B25 23 (.istore 4) 2 25 := ⟨by decide +kernel, rfl⟩
theorem d25_25 : DAt B25 25 (.aload_n 0) 1 26 := ⟨by decide +kernel, rfl⟩
theorem d25_26 : DAt B25 26 (.iload_n 1) 1 27 := ⟨by decide +kernel, rfl⟩
theorem d25_27 : DAt B25 27 (.iload 4) 2 29 := ⟨by decide +kernel, rfl⟩
theorem d25_29 : DAt B25 29 (.invokevirtual 100) 3 32 := ⟨by decide +kernel, rfl⟩
theorem d25_32 : DAt B25 32 (.istore 5) 2 34 := ⟨by decide +kernel, rfl⟩
theorem d25_34 : DAt B25 34 (.aload_n 0) 1 35 := ⟨by decide +kernel, rfl⟩
theorem d25_35 : DAt B25 35 (.getfield 56) 3 38 := ⟨by decide +kernel, rfl⟩
theorem d25_38 : DAt B25 38 (.iload 5) 2 40 := ⟨by decide +kernel, rfl⟩
theorem d25_40 : DAt B25 40 (.iconst 4) 1 41 := ⟨by decide +kernel, rfl⟩
theorem d25_41 : DAt B25 41 (.imul) 1 42 := ⟨by decide +kernel, rfl⟩
theorem d25_42 : DAt B25 42 (.iload_n 2) 1 43 := ⟨by decide +kernel, rfl⟩
theorem d25_43 : DAt B25 43 (.iconst 4) 1 44 := ⟨by decide +kernel, rfl⟩
theorem d25_44 : DAt B25 44 (.irem) 1 45 := ⟨by decide +kernel, rfl⟩
theorem d25_45 : DAt B25 45 (.iadd) 1 46 := ⟨by decide +kernel, rfl⟩
theorem d25_46 : DAt B25 46 (.iaload) 1 47 := ⟨by decide +kernel, rfl⟩
theorem d25_47 : DAt B25 47 (.istore 6) 2 49 := ⟨by decide +kernel, rfl⟩
theorem d25_49 : DAt B25 49 (.aload_n 0) 1 50 := ⟨by decide +kernel, rfl⟩
theorem d25_50 : DAt B25 50 (.iload_n 1) 1 51 := ⟨by decide +kernel, rfl⟩
theorem d25_51 : DAt B25 51 (.iload 4) 2 53 := ⟨by decide +kernel, rfl⟩
theorem d25_53 : DAt B25 53 (.invokevirtual 103) 3 56 := ⟨by decide +kernel, rfl⟩
theorem d25_56 : DAt B25 56 (.aload_n 0) 1 57 := ⟨by decide +kernel, rfl⟩
theorem d25_57 : DAt B25 57 (.iload_n 1) 1 58 := ⟨by decide +kernel, rfl⟩
theorem d25_58 : DAt B25 58 (.invokevirtual 107) 3 61 := ⟨by decide +kernel, rfl⟩
theorem d25_61 : DAt B25 61 (.aload_n 0) 1 62 := ⟨by decide +kernel, rfl⟩
theorem d25_62 : DAt B25 62 (.iconst 0) 1 63 := ⟨by decide +kernel, rfl⟩
theorem d25_63 : DAt B25 63 (.putfield 82) 3 66 := ⟨by decide +kernel, rfl⟩
theorem d25_66 : DAt B25 66 (.iload 6) 2 68 := ⟨by decide +kernel, rfl⟩
theorem d25_68 : DAt B25 68 (.i2l) 1 69 := ⟨by decide +kernel, rfl⟩
theorem d25_69 : DAt B25 69 (.lreturn) 1 70 := ⟨by decide +kernel, rfl⟩
def B5 : Bdy := ((⟨"WsClockPagerL6", "val", "(II)I"⟩ : MethodName), method_2_code, 2, (some .int), ({ frames := 0, cells := 0, slots := 0, locals := 0 } : Room))
theorem d5_0 : DAt B5 0 (.iload_n 0) 1 1 := ⟨by decide +kernel, rfl⟩
theorem d5_1 : DAt B5 1 (.sipush 256) 3 4 := ⟨by decide +kernel, rfl⟩
theorem d5_4 : DAt B5 4 (.imul) 1 5 := ⟨by decide +kernel, rfl⟩
theorem d5_5 : DAt B5 5 (.iload_n 1) 1 6 := ⟨by decide +kernel, rfl⟩
theorem d5_6 : DAt B5 6 (.iadd) 1 7 := ⟨by decide +kernel, rfl⟩
theorem d5_7 : DAt B5 7 (.iconst 1) 1 8 := ⟨by decide +kernel, rfl⟩
theorem d5_8 : DAt B5 8 (.iadd) 1 9 := ⟨by decide +kernel, rfl⟩
theorem d5_9 : DAt B5 9 (.ireturn) 1 10 := ⟨by decide +kernel, rfl⟩
def B6 : Bdy := ((⟨"WsClockPager", "store", "(III)I"⟩ : MethodName), prog_1_method_3_code, 7, (some .int), ({ frames := 4, cells := 0, slots := 0, locals := 64 } : Room))
theorem d6_0 : DAt B6 0 (.aload_n 0) 1 1 := ⟨by decide +kernel, rfl⟩
theorem d6_1 : DAt B6 1 (.iload_n 1) 1 2 := ⟨by decide +kernel, rfl⟩
theorem d6_2 : DAt B6 2 (.iload_n 2) 1 3 := ⟨by decide +kernel, rfl⟩
theorem d6_3 : DAt B6 3 (.invokevirtual 94) 3 6 := ⟨by decide +kernel, rfl⟩
theorem d6_6 : DAt B6 6 (.istore 4) 2 8 := ⟨by decide +kernel, rfl⟩
theorem d6_8 : DAt B6 8 (.iload 4) 2 10 := ⟨by decide +kernel, rfl⟩
theorem d6_10 : DAt B6 10 (.ifCond .eq 12) 3 13 := ⟨by decide +kernel, rfl⟩
theorem d6_13 : DAt B6 13 (.aload_n 0) 1 14 := ⟨by decide +kernel, rfl⟩
theorem d6_14 : DAt B6 14 (.iload 4) 2 16 := ⟨by decide +kernel, rfl⟩
theorem d6_16 : DAt B6 16 (.putfield 82) 3 19 := ⟨by decide +kernel, rfl⟩
theorem d6_19 : DAt B6 19 (.iload 4) 2 21 := ⟨by decide +kernel, rfl⟩
theorem d6_21 : DAt B6 21 (.ireturn) 1 22 := ⟨by decide +kernel, rfl⟩
theorem d6_22 : DAt B6 22 (.iload_n 2) 1 23 := ⟨by decide +kernel, rfl⟩
theorem d6_23 : DAt B6 23 (.iconst 4) 1 24 := ⟨by decide +kernel, rfl⟩
theorem d6_24 : DAt B6 24 (.idiv) 1 25 := ⟨by decide +kernel, rfl⟩
theorem d6_25 : DAt B6 25 (.istore 5) 2 27 := ⟨by decide +kernel, rfl⟩
theorem d6_27 : DAt B6 27 (.aload_n 0) 1 28 := ⟨by decide +kernel, rfl⟩
theorem d6_28 : DAt B6 28 (.iload_n 1) 1 29 := ⟨by decide +kernel, rfl⟩
theorem d6_29 : DAt B6 29 (.iload 5) 2 31 := ⟨by decide +kernel, rfl⟩
theorem d6_31 : DAt B6 31 (.invokevirtual 100) 3 34 := ⟨by decide +kernel, rfl⟩
theorem d6_34 : DAt B6 34 (.istore 6) 2 36 := ⟨by decide +kernel, rfl⟩
theorem d6_36 : DAt B6 36 (.aload_n 0) 1 37 := ⟨by decide +kernel, rfl⟩
theorem d6_37 : DAt B6 37 (.getfield 56) 3 40 := ⟨by decide +kernel, rfl⟩
theorem d6_40 : DAt B6 40 (.iload 6) 2 42 := ⟨by decide +kernel, rfl⟩
theorem d6_42 : DAt B6 42 (.iconst 4) 1 43 := ⟨by decide +kernel, rfl⟩
theorem d6_43 : DAt B6 43 (.imul) 1 44 := ⟨by decide +kernel, rfl⟩
theorem d6_44 : DAt B6 44 (.iload_n 2) 1 45 := ⟨by decide +kernel, rfl⟩
theorem d6_45 : DAt B6 45 (.iconst 4) 1 46 := ⟨by decide +kernel, rfl⟩
theorem d6_46 : DAt B6 46 (.irem) 1 47 := ⟨by decide +kernel, rfl⟩
theorem d6_47 : DAt B6 47 (.iadd) 1 48 := ⟨by decide +kernel, rfl⟩
theorem d6_48 : DAt B6 48 (.iload_n 3) 1 49 := ⟨by decide +kernel, rfl⟩
theorem d6_49 : DAt B6 49 (.iastore) 1 50 := ⟨by decide +kernel, rfl⟩
theorem d6_50 : DAt B6 50 (.aload_n 0) 1 51 := ⟨by decide +kernel, rfl⟩
theorem d6_51 : DAt B6 51 (.getfield 53) 3 54 := ⟨by decide +kernel, rfl⟩
theorem d6_54 : DAt B6 54 (.iload 6) 2 56 := ⟨by decide +kernel, rfl⟩
theorem d6_56 : DAt B6 56 (.iconst 1) 1 57 := ⟨by decide +kernel, rfl⟩
theorem d6_57 : DAt B6 57 (.bastore) 1 58 := ⟨by decide +kernel, rfl⟩
theorem d6_58 : DAt B6 58 (.aload_n 0) 1 59 := ⟨by decide +kernel, rfl⟩
theorem d6_59 : DAt B6 59 (.iload_n 1) 1 60 := ⟨by decide +kernel, rfl⟩
theorem d6_60 : DAt B6 60 (.iload 5) 2 62 := ⟨by decide +kernel, rfl⟩
theorem d6_62 : DAt B6 62 (.invokevirtual 103) 3 65 := ⟨by decide +kernel, rfl⟩
theorem d6_65 : DAt B6 65 (.aload_n 0) 1 66 := ⟨by decide +kernel, rfl⟩
theorem d6_66 : DAt B6 66 (.iload_n 1) 1 67 := ⟨by decide +kernel, rfl⟩
theorem d6_67 : DAt B6 67 (.invokevirtual 107) 3 70 := ⟨by decide +kernel, rfl⟩
theorem d6_70 : DAt B6 70 (.aload_n 0) 1 71 := ⟨by decide +kernel, rfl⟩
theorem d6_71 : DAt B6 71 (.iconst 0) 1 72 := ⟨by decide +kernel, rfl⟩
theorem d6_72 : DAt B6 72 (.putfield 82) 3 75 := ⟨by decide +kernel, rfl⟩
theorem d6_75 : DAt B6 75 (.iconst 0) 1 76 := ⟨by decide +kernel, rfl⟩
theorem d6_76 : DAt B6 76 (.ireturn) 1 77 := ⟨by decide +kernel, rfl⟩
def B15 : Bdy := ((⟨"WsClockPager", "inWorkingSet", "(II)Z"⟩ : MethodName), prog_1_method_9_code, 3, (some .boolean), ({ frames := 1, cells := 0, slots := 0, locals := 13 } : Room))
theorem d15_0 : DAt B15 0 (.aload_n 0) 1 1 := ⟨by decide +kernel, rfl⟩
theorem d15_1 : DAt B15 1 (.iload_n 1) 1 2 := ⟨by decide +kernel, rfl⟩
theorem d15_2 : DAt B15 2 (.invokevirtual 111) 3 5 := ⟨by decide +kernel, rfl⟩
theorem d15_5 : DAt B15 5 (.ifCond .eq 15) 3 8 := ⟨by decide +kernel, rfl⟩
theorem d15_8 : DAt B15 8 (.iload_n 2) 1 9 := ⟨by decide +kernel, rfl⟩
theorem d15_9 : DAt B15 9 (.ifCond .lt 11) 3 12 := ⟨by decide +kernel, rfl⟩
theorem d15_12 : DAt B15 12 (.iload_n 2) 1 13 := ⟨by decide +kernel, rfl⟩
theorem d15_13 : DAt B15 13 (.aload_n 0) 1 14 := ⟨by decide +kernel, rfl⟩
theorem d15_14 : DAt B15 14 (.getfield 73) 3 17 := ⟨by decide +kernel, rfl⟩
theorem d15_17 : DAt B15 17 (.if_icmp .lt 5) 3 20 := ⟨by decide +kernel, rfl⟩
theorem d15_20 : DAt B15 20 (.iconst 0) 1 21 := ⟨by decide +kernel, rfl⟩
theorem d15_21 : DAt B15 21 (.ireturn) 1 22 := ⟨by decide +kernel, rfl⟩
theorem d15_22 : DAt B15 22 (.aload_n 0) 1 23 := ⟨by decide +kernel, rfl⟩
theorem d15_23 : DAt B15 23 (.getfield 32) 3 26 := ⟨by decide +kernel, rfl⟩
theorem d15_26 : DAt B15 26 (.iload_n 1) 1 27 := ⟨by decide +kernel, rfl⟩
theorem d15_27 : DAt B15 27 (.bipush 16) 2 29 := ⟨by decide +kernel, rfl⟩
theorem d15_29 : DAt B15 29 (.imul) 1 30 := ⟨by decide +kernel, rfl⟩
theorem d15_30 : DAt B15 30 (.iload_n 2) 1 31 := ⟨by decide +kernel, rfl⟩
theorem d15_31 : DAt B15 31 (.iadd) 1 32 := ⟨by decide +kernel, rfl⟩
theorem d15_32 : DAt B15 32 (.iaload) 1 33 := ⟨by decide +kernel, rfl⟩
theorem d15_33 : DAt B15 33 (.ifCond .le 7) 3 36 := ⟨by decide +kernel, rfl⟩
theorem d15_36 : DAt B15 36 (.iconst 1) 1 37 := ⟨by decide +kernel, rfl⟩
theorem d15_37 : DAt B15 37 (.goto 4) 3 40 := ⟨by decide +kernel, rfl⟩
theorem d15_40 : DAt B15 40 (.iconst 0) 1 41 := ⟨by decide +kernel, rfl⟩
theorem d15_41 : DAt B15 41 (.ireturn) 1 42 := ⟨by decide +kernel, rfl⟩
def B16 : Bdy := ((⟨"WsClockPager", "lastStatus", "()I"⟩ : MethodName), prog_1_method_5_code, 1, (some .int), ({ frames := 0, cells := 0, slots := 0, locals := 0 } : Room))
theorem d16_0 : DAt B16 0 (.aload_n 0) 1 1 := ⟨by decide +kernel, rfl⟩
theorem d16_1 : DAt B16 1 (.getfield 82) 3 4 := ⟨by decide +kernel, rfl⟩
theorem d16_4 : DAt B16 4 (.ireturn) 1 5 := ⟨by decide +kernel, rfl⟩
def B17 : Bdy := ((⟨"WsClockPager", "workingSetSize", "(I)I"⟩ : MethodName), prog_1_method_8_code, 2, (some .int), ({ frames := 1, cells := 0, slots := 0, locals := 13 } : Room))
theorem d17_0 : DAt B17 0 (.aload_n 0) 1 1 := ⟨by decide +kernel, rfl⟩
theorem d17_1 : DAt B17 1 (.iload_n 1) 1 2 := ⟨by decide +kernel, rfl⟩
theorem d17_2 : DAt B17 2 (.invokevirtual 111) 3 5 := ⟨by decide +kernel, rfl⟩
theorem d17_5 : DAt B17 5 (.ifCond .ne 5) 3 8 := ⟨by decide +kernel, rfl⟩
theorem d17_8 : DAt B17 8 (.iconst 0) 1 9 := ⟨by decide +kernel, rfl⟩
theorem d17_9 : DAt B17 9 (.ireturn) 1 10 := ⟨by decide +kernel, rfl⟩
theorem d17_10 : DAt B17 10 (.aload_n 0) 1 11 := ⟨by decide +kernel, rfl⟩
theorem d17_11 : DAt B17 11 (.getfield 23) 3 14 := ⟨by decide +kernel, rfl⟩
theorem d17_14 : DAt B17 14 (.iload_n 1) 1 15 := ⟨by decide +kernel, rfl⟩
theorem d17_15 : DAt B17 15 (.iaload) 1 16 := ⟨by decide +kernel, rfl⟩
theorem d17_16 : DAt B17 16 (.ireturn) 1 17 := ⟨by decide +kernel, rfl⟩
def B18 : Bdy := ((⟨"WsClockPager", "suspensions", "()I"⟩ : MethodName), prog_1_method_11_code, 1, (some .int), ({ frames := 0, cells := 0, slots := 0, locals := 0 } : Room))
theorem d18_0 : DAt B18 0 (.aload_n 0) 1 1 := ⟨by decide +kernel, rfl⟩
theorem d18_1 : DAt B18 1 (.getfield 85) 3 4 := ⟨by decide +kernel, rfl⟩
theorem d18_4 : DAt B18 4 (.ireturn) 1 5 := ⟨by decide +kernel, rfl⟩
def B19 : Bdy := ((⟨"WsClockPager", "readmissions", "()I"⟩ : MethodName), prog_1_method_12_code, 1, (some .int), ({ frames := 0, cells := 0, slots := 0, locals := 0 } : Room))
theorem d19_0 : DAt B19 0 (.aload_n 0) 1 1 := ⟨by decide +kernel, rfl⟩
theorem d19_1 : DAt B19 1 (.getfield 88) 3 4 := ⟨by decide +kernel, rfl⟩
theorem d19_4 : DAt B19 4 (.ireturn) 1 5 := ⟨by decide +kernel, rfl⟩
def B21 : Bdy := ((⟨"WsClockPager", "touchedPages", "(I)I"⟩ : MethodName), prog_1_method_13_code, 2, (some .int), ({ frames := 1, cells := 0, slots := 0, locals := 13 } : Room))
theorem d21_0 : DAt B21 0 (.aload_n 0) 1 1 := ⟨by decide +kernel, rfl⟩
theorem d21_1 : DAt B21 1 (.iload_n 1) 1 2 := ⟨by decide +kernel, rfl⟩
theorem d21_2 : DAt B21 2 (.invokevirtual 111) 3 5 := ⟨by decide +kernel, rfl⟩
theorem d21_5 : DAt B21 5 (.ifCond .ne 5) 3 8 := ⟨by decide +kernel, rfl⟩
theorem d21_8 : DAt B21 8 (.iconst 0) 1 9 := ⟨by decide +kernel, rfl⟩
theorem d21_9 : DAt B21 9 (.ireturn) 1 10 := ⟨by decide +kernel, rfl⟩
theorem d21_10 : DAt B21 10 (.aload_n 0) 1 11 := ⟨by decide +kernel, rfl⟩
theorem d21_11 : DAt B21 11 (.getfield 26) 3 14 := ⟨by decide +kernel, rfl⟩
theorem d21_14 : DAt B21 14 (.iload_n 1) 1 15 := ⟨by decide +kernel, rfl⟩
theorem d21_15 : DAt B21 15 (.iaload) 1 16 := ⟨by decide +kernel, rfl⟩
theorem d21_16 : DAt B21 16 (.ireturn) 1 17 := ⟨by decide +kernel, rfl⟩
def B22 : Bdy := ((⟨"WsClockPager", "virtualTime", "(I)I"⟩ : MethodName), prog_1_method_7_code, 2, (some .int), ({ frames := 1, cells := 0, slots := 0, locals := 13 } : Room))
theorem d22_0 : DAt B22 0 (.aload_n 0) 1 1 := ⟨by decide +kernel, rfl⟩
theorem d22_1 : DAt B22 1 (.iload_n 1) 1 2 := ⟨by decide +kernel, rfl⟩
theorem d22_2 : DAt B22 2 (.invokevirtual 111) 3 5 := ⟨by decide +kernel, rfl⟩
theorem d22_5 : DAt B22 5 (.ifCond .ne 5) 3 8 := ⟨by decide +kernel, rfl⟩
theorem d22_8 : DAt B22 8 (.iconst 0) 1 9 := ⟨by decide +kernel, rfl⟩
theorem d22_9 : DAt B22 9 (.ireturn) 1 10 := ⟨by decide +kernel, rfl⟩
theorem d22_10 : DAt B22 10 (.aload_n 0) 1 11 := ⟨by decide +kernel, rfl⟩
theorem d22_11 : DAt B22 11 (.getfield 13) 3 14 := ⟨by decide +kernel, rfl⟩
theorem d22_14 : DAt B22 14 (.iload_n 1) 1 15 := ⟨by decide +kernel, rfl⟩
theorem d22_15 : DAt B22 15 (.iaload) 1 16 := ⟨by decide +kernel, rfl⟩
theorem d22_16 : DAt B22 16 (.ireturn) 1 17 := ⟨by decide +kernel, rfl⟩
def B24 : Bdy := ((⟨"WsClockPager", "readWord", "(II)I"⟩ : MethodName), prog_1_method_19_code, 5, (some .int), ({ frames := 0, cells := 0, slots := 0, locals := 0 } : Room))
theorem d24_0 : DAt B24 0 (.aload_n 0) 1 1 := ⟨by decide +kernel, rfl⟩
theorem d24_1 : DAt B24 1 (.getfield 38) 3 4 := ⟨by decide +kernel, rfl⟩
theorem d24_4 : DAt B24 4 (.iload_n 1) 1 5 := ⟨by decide +kernel, rfl⟩
theorem d24_5 : DAt B24 5 (.iaload) 1 6 := ⟨by decide +kernel, rfl⟩
theorem d24_6 : DAt B24 6 (.istore_n 3) 1 7 := ⟨by decide +kernel, rfl⟩
theorem d24_7 : DAt B24 7 (.iload_n 3) 1 8 := ⟨by decide +kernel, rfl⟩
theorem d24_8 : DAt B24 8 (.ifCond .lt 14) 3 11 := ⟨by decide +kernel, rfl⟩
theorem d24_11 : DAt B24 11 (.aload_n 0) 1 12 := ⟨by decide +kernel, rfl⟩
theorem d24_12 : DAt B24 12 (.getfield 56) 3 15 := ⟨by decide +kernel, rfl⟩
theorem d24_15 : DAt B24 15 (.iload_n 3) 1 16 := ⟨by decide +kernel, rfl⟩
theorem d24_16 : DAt B24 16 (.iconst 4) 1 17 := ⟨by decide +kernel, rfl⟩
theorem d24_17 : DAt B24 17 (.imul) 1 18 := ⟨by decide +kernel, rfl⟩
theorem d24_18 : DAt B24 18 (.iload_n 2) 1 19 := ⟨by decide +kernel, rfl⟩
theorem d24_19 : DAt B24 19 (.iadd) 1 20 := ⟨by decide +kernel, rfl⟩
theorem d24_20 : DAt B24 20 (.iaload) 1 21 := ⟨by decide +kernel, rfl⟩
theorem d24_21 : DAt B24 21 (.ireturn) 1 22 := ⟨by decide +kernel, rfl⟩
theorem d24_22 : DAt B24 22 (.aload_n 0) 1 23 := ⟨by decide +kernel, rfl⟩
theorem d24_23 : DAt B24 23 (.getfield 41) 3 26 := ⟨by decide +kernel, rfl⟩
theorem d24_26 : DAt B24 26 (.iload_n 1) 1 27 := ⟨by decide +kernel, rfl⟩
theorem d24_27 : DAt B24 27 (.iaload) 1 28 := ⟨by decide +kernel, rfl⟩
theorem d24_28 : DAt B24 28 (.istore 4) 2 30 := ⟨by decide +kernel, rfl⟩
theorem d24_30 : DAt B24 30 (.iload 4) 2 32 := ⟨by decide +kernel, rfl⟩
theorem d24_32 : DAt B24 32 (.ifCond .lt 15) 3 35 := ⟨by decide +kernel, rfl⟩
theorem d24_35 : DAt B24 35 (.aload_n 0) 1 36 := ⟨by decide +kernel, rfl⟩
theorem d24_36 : DAt B24 36 (.getfield 62) 3 39 := ⟨by decide +kernel, rfl⟩
theorem d24_39 : DAt B24 39 (.iload 4) 2 41 := ⟨by decide +kernel, rfl⟩
theorem d24_41 : DAt B24 41 (.iconst 4) 1 42 := ⟨by decide +kernel, rfl⟩
theorem d24_42 : DAt B24 42 (.imul) 1 43 := ⟨by decide +kernel, rfl⟩
theorem d24_43 : DAt B24 43 (.iload_n 2) 1 44 := ⟨by decide +kernel, rfl⟩
theorem d24_44 : DAt B24 44 (.iadd) 1 45 := ⟨by decide +kernel, rfl⟩
theorem d24_45 : DAt B24 45 (.iaload) 1 46 := ⟨by decide +kernel, rfl⟩
theorem d24_46 : DAt B24 46 (.ireturn) 1 47 := ⟨by decide +kernel, rfl⟩
theorem d24_47 : DAt B24 47 (.iconst 0) 1 48 := ⟨by decide +kernel, rfl⟩
theorem d24_48 : DAt B24 48 (.ireturn) 1 49 := ⟨by decide +kernel, rfl⟩
def B23 : Bdy := ((⟨"WsClockPager", "memorySum", "(I)I"⟩ : MethodName), prog_1_method_14_code, 6, (some .int), ({ frames := 1, cells := 0, slots := 0, locals := 17 } : Room))
theorem d23_0 : DAt B23 0 (.aload_n 0) 1 1 := ⟨by decide +kernel, rfl⟩
theorem d23_1 : DAt B23 1 (.iload_n 1) 1 2 := ⟨by decide +kernel, rfl⟩
theorem d23_2 : DAt B23 2 (.invokevirtual 111) 3 5 := ⟨by decide +kernel, rfl⟩
theorem d23_5 : DAt B23 5 (.ifCond .ne 5) 3 8 := ⟨by decide +kernel, rfl⟩
theorem d23_8 : DAt B23 8 (.iconst 0) 1 9 := ⟨by decide +kernel, rfl⟩
theorem d23_9 : DAt B23 9 (.ireturn) 1 10 := ⟨by decide +kernel, rfl⟩
theorem d23_10 : DAt B23 10 (.iconst 0) 1 11 := ⟨by decide +kernel, rfl⟩
theorem d23_11 : DAt B23 11 (.istore_n 2) 1 12 := ⟨by decide +kernel, rfl⟩
theorem d23_12 : DAt B23 12 (.iconst 0) 1 13 := ⟨by decide +kernel, rfl⟩
theorem d23_13 : DAt B23 13 (.istore_n 3) 1 14 := ⟨by decide +kernel, rfl⟩
theorem d23_14 : DAt B23 14 (.iload_n 3) 1 15 := ⟨by decide +kernel, rfl⟩
theorem d23_15 : DAt B23 15 (.aload_n 0) 1 16 := ⟨by decide +kernel, rfl⟩
theorem d23_16 : DAt B23 16 (.getfield 73) 3 19 := ⟨by decide +kernel, rfl⟩
theorem d23_19 : DAt B23 19 (.if_icmp .ge 43) 3 22 := ⟨by decide +kernel, rfl⟩
theorem d23_22 : DAt B23 22 (.iload_n 1) 1 23 := ⟨by decide +kernel, rfl⟩
theorem d23_23 : DAt B23 23 (.bipush 16) 2 25 := ⟨by decide +kernel, rfl⟩
theorem d23_25 : DAt B23 25 (.imul) 1 26 := ⟨by decide +kernel, rfl⟩
theorem d23_26 : DAt B23 26 (.iload_n 3) 1 27 := ⟨by decide +kernel, rfl⟩
theorem d23_27 : DAt B23 27 (.iadd) 1 28 := ⟨by decide +kernel, rfl⟩
theorem d23_28 : DAt B23 28 (.istore 4) 2 30 := ⟨by decide +kernel, rfl⟩
theorem d23_30 : DAt B23 30 (.iconst 0) 1 31 := ⟨by decide +kernel, rfl⟩
theorem d23_31 : DAt B23 31 (.istore 5) 2 33 := ⟨by decide +kernel, rfl⟩
theorem d23_33 : DAt B23 33 (.iload 5) 2 35 := ⟨by decide +kernel, rfl⟩
theorem d23_35 : DAt B23 35 (.iconst 4) 1 36 := ⟨by decide +kernel, rfl⟩
theorem d23_36 : DAt B23 36 (.if_icmp .ge 20) 3 39 := ⟨by decide +kernel, rfl⟩
theorem d23_39 : DAt B23 39 (.iload_n 2) 1 40 := ⟨by decide +kernel, rfl⟩
theorem d23_40 : DAt B23 40 (.aload_n 0) 1 41 := ⟨by decide +kernel, rfl⟩
theorem d23_41 : DAt B23 41 (.iload 4) 2 43 := ⟨by decide +kernel, rfl⟩
theorem d23_43 : DAt B23 43 (.iload 5) 2 45 := ⟨by decide +kernel, rfl⟩
theorem d23_45 : DAt B23 45 (.invokevirtual 118) 3 48 := ⟨by decide +kernel, rfl⟩
theorem d23_48 : DAt B23 48 (.iadd) 1 49 := ⟨by decide +kernel, rfl⟩
theorem d23_49 : DAt B23 49 (.istore_n 2) 1 50 := ⟨by decide +kernel, rfl⟩
theorem d23_50 : DAt B23 50 (.iinc 5 1) 3 53 := ⟨by decide +kernel, rfl⟩
theorem d23_53 : DAt B23 53 (.goto (-20)) 3 56 := ⟨by decide +kernel, rfl⟩
theorem d23_56 : DAt B23 56 (.iinc 3 1) 3 59 := ⟨by decide +kernel, rfl⟩
theorem d23_59 : DAt B23 59 (.goto (-45)) 3 62 := ⟨by decide +kernel, rfl⟩
theorem d23_62 : DAt B23 62 (.iload_n 2) 1 63 := ⟨by decide +kernel, rfl⟩
theorem d23_63 : DAt B23 63 (.ireturn) 1 64 := ⟨by decide +kernel, rfl⟩
def B20 : Bdy := ((⟨"WsClockPagerL6", "proc", "(LWsClockPager;IIJ)Z"⟩ : MethodName), method_3_code, 9, (some .boolean), ({ frames := 2, cells := 0, slots := 0, locals := 34 } : Room))
theorem d20_0 : DAt B20 0 (.iconst 0) 1 1 := ⟨by decide +kernel, rfl⟩
theorem d20_1 : DAt B20 1 (.istore 5) 2 3 := ⟨by decide +kernel, rfl⟩
theorem d20_3 : DAt B20 3 (.iconst 0) 1 4 := ⟨by decide +kernel, rfl⟩
theorem d20_4 : DAt B20 4 (.istore 6) 2 6 := ⟨by decide +kernel, rfl⟩
theorem d20_6 : DAt B20 6 (.iconst 0) 1 7 := ⟨by decide +kernel, rfl⟩
theorem d20_7 : DAt B20 7 (.istore 7) 2 9 := ⟨by decide +kernel, rfl⟩
theorem d20_9 : DAt B20 9 (.iload 7) 2 11 := ⟨by decide +kernel, rfl⟩
theorem d20_11 : DAt B20 11 (.bipush 64) 2 13 := ⟨by decide +kernel, rfl⟩
theorem d20_13 : DAt B20 13 (.if_icmp .ge 31) 3 16 := ⟨by decide +kernel, rfl⟩
theorem d20_16 : DAt B20 16 (.lload_n 3) 1 17 := ⟨by decide +kernel, rfl⟩
theorem d20_17 : DAt B20 17 (.iload 7) 2 19 := ⟨by decide +kernel, rfl⟩
theorem d20_19 : DAt B20 19 (.lushr) 1 20 := ⟨by decide +kernel, rfl⟩
theorem d20_20 : DAt B20 20 (.lconst 1) 1 21 := ⟨by decide +kernel, rfl⟩
theorem d20_21 : DAt B20 21 (.land) 1 22 := ⟨by decide +kernel, rfl⟩
theorem d20_22 : DAt B20 22 (.lconst 0) 1 23 := ⟨by decide +kernel, rfl⟩
theorem d20_23 : DAt B20 23 (.lcmp) 1 24 := ⟨by decide +kernel, rfl⟩
theorem d20_24 : DAt B20 24 (.ifCond .eq 14) 3 27 := ⟨by decide +kernel, rfl⟩
theorem d20_27 : DAt B20 27 (.iload 5) 2 29 := ⟨by decide +kernel, rfl⟩
theorem d20_29 : DAt B20 29 (.iload_n 1) 1 30 := ⟨by decide +kernel, rfl⟩
theorem d20_30 : DAt B20 30 (.iload 7) 2 32 := ⟨by decide +kernel, rfl⟩
theorem d20_32 : DAt B20 32 (.invokestatic 7) 3 35 := ⟨by decide +kernel, rfl⟩
theorem d20_35 : DAt B20 35 (.iadd) 1 36 := ⟨by decide +kernel, rfl⟩
theorem d20_36 : DAt B20 36 (.istore 5) 2 38 := ⟨by decide +kernel, rfl⟩
theorem d20_38 : DAt B20 38 (.iinc 7 1) 3 41 := ⟨by decide +kernel, rfl⟩
theorem d20_41 : DAt B20 41 (.goto (-32)) 3 44 := ⟨by decide +kernel, rfl⟩
theorem d20_44 : DAt B20 44 (.iconst 0) 1 45 := ⟨by decide +kernel, rfl⟩
theorem d20_45 : DAt B20 45 (.istore 7) 2 47 := ⟨by decide +kernel, rfl⟩
theorem d20_47 : DAt B20 47 (.iload 7) 2 49 := ⟨by decide +kernel, rfl⟩
theorem d20_49 : DAt B20 49 (.bipush 16) 2 51 := ⟨by decide +kernel, rfl⟩
theorem d20_51 : DAt B20 51 (.if_icmp .ge 27) 3 54 := ⟨by decide +kernel, rfl⟩
theorem d20_54 : DAt B20 54 (.lload_n 3) 1 55 := ⟨by decide +kernel, rfl⟩
theorem d20_55 : DAt B20 55 (.iconst 4) 1 56 := ⟨by decide +kernel, rfl⟩
theorem d20_56 : DAt B20 56 (.iload 7) 2 58 := ⟨by decide +kernel, rfl⟩
theorem d20_58 : DAt B20 58 (.imul) 1 59 := ⟨by decide +kernel, rfl⟩
theorem d20_59 : DAt B20 59 (.lushr) 1 60 := ⟨by decide +kernel, rfl⟩
theorem d20_60 : DAt B20 60 (.ldc2_w 13) 3 63 := ⟨by decide +kernel, rfl⟩
theorem d20_63 : DAt B20 63 (.land) 1 64 := ⟨by decide +kernel, rfl⟩
theorem d20_64 : DAt B20 64 (.lconst 0) 1 65 := ⟨by decide +kernel, rfl⟩
theorem d20_65 : DAt B20 65 (.lcmp) 1 66 := ⟨by decide +kernel, rfl⟩
theorem d20_66 : DAt B20 66 (.ifCond .eq 6) 3 69 := ⟨by decide +kernel, rfl⟩
theorem d20_69 : DAt B20 69 (.iinc 6 1) 3 72 := ⟨by decide +kernel, rfl⟩
theorem d20_72 : DAt B20 72 (.iinc 7 1) 3 75 := ⟨by decide +kernel, rfl⟩
theorem d20_75 : DAt B20 75 (.goto (-28)) 3 78 := ⟨by decide +kernel, rfl⟩
theorem d20_78 : DAt B20 78 (.aload_n 0) 1 79 := ⟨by decide +kernel, rfl⟩
theorem d20_79 : DAt B20 79 (.iload_n 1) 1 80 := ⟨by decide +kernel, rfl⟩
theorem d20_80 : DAt B20 80 (.invokevirtual 15) 3 83 := ⟨by decide +kernel, rfl⟩
theorem d20_83 : DAt B20 83 (.istore 7) 2 85 := ⟨by decide +kernel, rfl⟩
theorem d20_85 : DAt B20 85 (.aload_n 0) 1 86 := ⟨by decide +kernel, rfl⟩
theorem d20_86 : DAt B20 86 (.iload_n 1) 1 87 := ⟨by decide +kernel, rfl⟩
theorem d20_87 : DAt B20 87 (.invokevirtual 21) 3 90 := ⟨by decide +kernel, rfl⟩
theorem d20_90 : DAt B20 90 (.istore 8) 2 92 := ⟨by decide +kernel, rfl⟩
theorem d20_92 : DAt B20 92 (.aload_n 0) 1 93 := ⟨by decide +kernel, rfl⟩
theorem d20_93 : DAt B20 93 (.iload_n 1) 1 94 := ⟨by decide +kernel, rfl⟩
theorem d20_94 : DAt B20 94 (.invokevirtual 24) 3 97 := ⟨by decide +kernel, rfl⟩
theorem d20_97 : DAt B20 97 (.iload_n 2) 1 98 := ⟨by decide +kernel, rfl⟩
theorem d20_98 : DAt B20 98 (.if_icmp .ne 56) 3 101 := ⟨by decide +kernel, rfl⟩
theorem d20_101 : DAt B20 101 (.aload_n 0) 1 102 := ⟨by decide +kernel, rfl⟩
theorem d20_102 : DAt B20 102 (.iload_n 1) 1 103 := ⟨by decide +kernel, rfl⟩
theorem d20_103 : DAt B20 103 (.invokevirtual 27) 3 106 := ⟨by decide +kernel, rfl⟩
theorem d20_106 : DAt B20 106 (.iload 5) 2 108 := ⟨by decide +kernel, rfl⟩
theorem d20_108 : DAt B20 108 (.if_icmp .ne 46) 3 111 := ⟨by decide +kernel, rfl⟩
theorem d20_111 : DAt B20 111 (.iload 7) 2 113 := ⟨by decide +kernel, rfl⟩
theorem d20_113 : DAt B20 113 (.iconst 3) 1 114 := ⟨by decide +kernel, rfl⟩
theorem d20_114 : DAt B20 114 (.if_icmp .gt 40) 3 117 := ⟨by decide +kernel, rfl⟩
theorem d20_117 : DAt B20 117 (.iload 7) 2 119 := ⟨by decide +kernel, rfl⟩
theorem d20_119 : DAt B20 119 (.iload_n 2) 1 120 := ⟨by decide +kernel, rfl⟩
theorem d20_120 : DAt B20 120 (.if_icmp .gt 34) 3 123 := ⟨by decide +kernel, rfl⟩
theorem d20_123 : DAt B20 123 (.iload 8) 2 125 := ⟨by decide +kernel, rfl⟩
theorem d20_125 : DAt B20 125 (.iload 7) 2 127 := ⟨by decide +kernel, rfl⟩
theorem d20_127 : DAt B20 127 (.if_icmp .lt 27) 3 130 := ⟨by decide +kernel, rfl⟩
theorem d20_130 : DAt B20 130 (.iload 8) 2 132 := ⟨by decide +kernel, rfl⟩
theorem d20_132 : DAt B20 132 (.iload 6) 2 134 := ⟨by decide +kernel, rfl⟩
theorem d20_134 : DAt B20 134 (.if_icmp .lt 20) 3 137 := ⟨by decide +kernel, rfl⟩
theorem d20_137 : DAt B20 137 (.iload 8) 2 139 := ⟨by decide +kernel, rfl⟩
theorem d20_139 : DAt B20 139 (.bipush 16) 2 141 := ⟨by decide +kernel, rfl⟩
theorem d20_141 : DAt B20 141 (.if_icmp .gt 13) 3 144 := ⟨by decide +kernel, rfl⟩
theorem d20_144 : DAt B20 144 (.iload 8) 2 146 := ⟨by decide +kernel, rfl⟩
theorem d20_146 : DAt B20 146 (.iload_n 2) 1 147 := ⟨by decide +kernel, rfl⟩
theorem d20_147 : DAt B20 147 (.if_icmp .gt 7) 3 150 := ⟨by decide +kernel, rfl⟩
theorem d20_150 : DAt B20 150 (.iconst 1) 1 151 := ⟨by decide +kernel, rfl⟩
theorem d20_151 : DAt B20 151 (.goto 4) 3 154 := ⟨by decide +kernel, rfl⟩
theorem d20_154 : DAt B20 154 (.iconst 0) 1 155 := ⟨by decide +kernel, rfl⟩
theorem d20_155 : DAt B20 155 (.ireturn) 1 156 := ⟨by decide +kernel, rfl⟩
def B0 : Bdy := (x, code, maxLocals, ret, room_1)
theorem d0_0 : DAt B0 0 (.new 16) 3 3 := ⟨at_0, rfl⟩
theorem d0_3 : DAt B0 3 (.dup) 1 4 := ⟨at_3, rfl⟩
theorem d0_4 : DAt B0 4 (.iconst 4) 1 5 := ⟨at_4, rfl⟩
theorem d0_5 : DAt B0 5 (.bipush 16) 2 7 := ⟨at_5, rfl⟩
theorem d0_7 : DAt B0 7 (.bipush 6) 2 9 := ⟨at_7, rfl⟩
theorem d0_9 : DAt B0 9 (.iconst 3) 1 10 := ⟨at_9, rfl⟩
theorem d0_10 : DAt B0 10 (.invokespecial 30) 3 13 := ⟨at_10, rfl⟩
theorem d0_13 : DAt B0 13 (.astore_n 1) 1 14 := ⟨at_13, rfl⟩
theorem d0_14 : DAt B0 14 (.lconst 0) 1 15 := ⟨at_14, rfl⟩
theorem d0_15 : DAt B0 15 (.lstore_n 2) 1 16 := ⟨at_15, rfl⟩
theorem d0_16 : DAt B0 16 (.lconst 0) 1 17 := ⟨at_16, rfl⟩
theorem d0_17 : DAt B0 17 (.lstore 4) 2 19 := ⟨at_17, rfl⟩
theorem d0_19 : DAt B0 19 (.lconst 0) 1 20 := ⟨at_19, rfl⟩
theorem d0_20 : DAt B0 20 (.lstore 6) 2 22 := ⟨at_20, rfl⟩
theorem d0_22 : DAt B0 22 (.lconst 0) 1 23 := ⟨at_22, rfl⟩
theorem d0_23 : DAt B0 23 (.lstore 8) 2 25 := ⟨at_23, rfl⟩
theorem d0_25 : DAt B0 25 (.iconst 0) 1 26 := ⟨at_25, rfl⟩
theorem d0_26 : DAt B0 26 (.istore 10) 2 28 := ⟨at_26, rfl⟩
theorem d0_28 : DAt B0 28 (.iconst 0) 1 29 := ⟨at_28, rfl⟩
theorem d0_29 : DAt B0 29 (.istore 11) 2 31 := ⟨at_29, rfl⟩
theorem d0_31 : DAt B0 31 (.iconst 0) 1 32 := ⟨at_31, rfl⟩
theorem d0_32 : DAt B0 32 (.istore 12) 2 34 := ⟨at_32, rfl⟩
theorem d0_34 : DAt B0 34 (.iconst 0) 1 35 := ⟨at_34, rfl⟩
theorem d0_35 : DAt B0 35 (.istore 13) 2 37 := ⟨at_35, rfl⟩
theorem d0_37 : DAt B0 37 (.iconst 0) 1 38 := ⟨at_37, rfl⟩
theorem d0_38 : DAt B0 38 (.istore 14) 2 40 := ⟨at_38, rfl⟩
theorem d0_40 : DAt B0 40 (.iconst 0) 1 41 := ⟨at_40, rfl⟩
theorem d0_41 : DAt B0 41 (.istore 15) 2 43 := ⟨at_41, rfl⟩
theorem d0_43 : DAt B0 43 (.iload 15) 2 45 := ⟨at_43, rfl⟩
theorem d0_45 : DAt B0 45 (.iconst 3) 1 46 := ⟨at_45, rfl⟩
theorem d0_46 : DAt B0 46 (.iadd) 1 47 := ⟨at_46, rfl⟩
theorem d0_47 : DAt B0 47 (.aload_n 0) 1 48 := ⟨at_47, rfl⟩
theorem d0_48 : DAt B0 48 (.arraylength) 1 49 := ⟨at_48, rfl⟩
theorem d0_49 : DAt B0 49 (.if_icmp .gt 556) 3 52 := ⟨at_49, rfl⟩
theorem d0_52 : DAt B0 52 (.aload_n 0) 1 53 := ⟨at_52, rfl⟩
theorem d0_53 : DAt B0 53 (.iload 15) 2 55 := ⟨at_53, rfl⟩
theorem d0_55 : DAt B0 55 (.iaload) 1 56 := ⟨at_55, rfl⟩
theorem d0_56 : DAt B0 56 (.bipush 7) 2 58 := ⟨at_56, rfl⟩
theorem d0_58 : DAt B0 58 (.iand) 1 59 := ⟨at_58, rfl⟩
theorem d0_59 : DAt B0 59 (.istore 16) 2 61 := ⟨at_59, rfl⟩
theorem d0_61 : DAt B0 61 (.aload_n 0) 1 62 := ⟨at_61, rfl⟩
theorem d0_62 : DAt B0 62 (.iload 15) 2 64 := ⟨at_62, rfl⟩
theorem d0_64 : DAt B0 64 (.iconst 1) 1 65 := ⟨at_64, rfl⟩
theorem d0_65 : DAt B0 65 (.iadd) 1 66 := ⟨at_65, rfl⟩
theorem d0_66 : DAt B0 66 (.iaload) 1 67 := ⟨at_66, rfl⟩
theorem d0_67 : DAt B0 67 (.ldc 33) 2 69 := ⟨at_67, rfl⟩
theorem d0_69 : DAt B0 69 (.iand) 1 70 := ⟨at_69, rfl⟩
theorem d0_70 : DAt B0 70 (.iconst 5) 1 71 := ⟨at_70, rfl⟩
theorem d0_71 : DAt B0 71 (.irem) 1 72 := ⟨at_71, rfl⟩
theorem d0_72 : DAt B0 72 (.istore 17) 2 74 := ⟨at_72, rfl⟩
theorem d0_74 : DAt B0 74 (.aload_n 0) 1 75 := ⟨at_74, rfl⟩
theorem d0_75 : DAt B0 75 (.iload 15) 2 77 := ⟨at_75, rfl⟩
theorem d0_77 : DAt B0 77 (.iconst 2) 1 78 := ⟨at_77, rfl⟩
theorem d0_78 : DAt B0 78 (.iadd) 1 79 := ⟨at_78, rfl⟩
theorem d0_79 : DAt B0 79 (.iaload) 1 80 := ⟨at_79, rfl⟩
theorem d0_80 : DAt B0 80 (.ldc 33) 2 82 := ⟨at_80, rfl⟩
theorem d0_82 : DAt B0 82 (.iand) 1 83 := ⟨at_82, rfl⟩
theorem d0_83 : DAt B0 83 (.bipush 66) 2 85 := ⟨at_83, rfl⟩
theorem d0_85 : DAt B0 85 (.irem) 1 86 := ⟨at_85, rfl⟩
theorem d0_86 : DAt B0 86 (.istore 18) 2 88 := ⟨at_86, rfl⟩
theorem d0_88 : DAt B0 88 (.aload_n 1) 1 89 := ⟨at_88, rfl⟩
theorem d0_89 : DAt B0 89 (.iload 17) 2 91 := ⟨at_89, rfl⟩
theorem d0_91 : DAt B0 91 (.invokevirtual 34) 3 94 := ⟨at_91, rfl⟩
theorem d0_94 : DAt B0 94 (.istore 19) 2 96 := ⟨at_94, rfl⟩
theorem d0_96 : DAt B0 96 (.iload 17) 2 98 := ⟨at_96, rfl⟩
theorem d0_98 : DAt B0 98 (.ifCond .ne 7) 3 101 := ⟨at_98, rfl⟩
theorem d0_101 : DAt B0 101 (.lload_n 2) 1 102 := ⟨at_101, rfl⟩
theorem d0_102 : DAt B0 102 (.goto 27) 3 105 := ⟨at_102, rfl⟩
theorem d0_105 : DAt B0 105 (.iload 17) 2 107 := ⟨at_105, rfl⟩
theorem d0_107 : DAt B0 107 (.iconst 1) 1 108 := ⟨at_107, rfl⟩
theorem d0_108 : DAt B0 108 (.if_icmp .ne 8) 3 111 := ⟨at_108, rfl⟩
theorem d0_111 : DAt B0 111 (.lload 4) 2 113 := ⟨at_111, rfl⟩
theorem d0_113 : DAt B0 113 (.goto 16) 3 116 := ⟨at_113, rfl⟩
theorem d0_116 : DAt B0 116 (.iload 17) 2 118 := ⟨at_116, rfl⟩
theorem d0_118 : DAt B0 118 (.iconst 2) 1 119 := ⟨at_118, rfl⟩
theorem d0_119 : DAt B0 119 (.if_icmp .ne 8) 3 122 := ⟨at_119, rfl⟩
theorem d0_122 : DAt B0 122 (.lload 6) 2 124 := ⟨at_122, rfl⟩
theorem d0_124 : DAt B0 124 (.goto 5) 3 127 := ⟨at_124, rfl⟩
theorem d0_127 : DAt B0 127 (.lload 8) 2 129 := ⟨at_127, rfl⟩
theorem d0_129 : DAt B0 129 (.lstore 20) 2 131 := ⟨at_129, rfl⟩
theorem d0_131 : DAt B0 131 (.iload 17) 2 133 := ⟨at_131, rfl⟩
theorem d0_133 : DAt B0 133 (.ifCond .ne 8) 3 136 := ⟨at_133, rfl⟩
theorem d0_136 : DAt B0 136 (.iload 10) 2 138 := ⟨at_136, rfl⟩
theorem d0_138 : DAt B0 138 (.goto 27) 3 141 := ⟨at_138, rfl⟩
theorem d0_141 : DAt B0 141 (.iload 17) 2 143 := ⟨at_141, rfl⟩
theorem d0_143 : DAt B0 143 (.iconst 1) 1 144 := ⟨at_143, rfl⟩
theorem d0_144 : DAt B0 144 (.if_icmp .ne 8) 3 147 := ⟨at_144, rfl⟩
theorem d0_147 : DAt B0 147 (.iload 11) 2 149 := ⟨at_147, rfl⟩
theorem d0_149 : DAt B0 149 (.goto 16) 3 152 := ⟨at_149, rfl⟩
theorem d0_152 : DAt B0 152 (.iload 17) 2 154 := ⟨at_152, rfl⟩
theorem d0_154 : DAt B0 154 (.iconst 2) 1 155 := ⟨at_154, rfl⟩
theorem d0_155 : DAt B0 155 (.if_icmp .ne 8) 3 158 := ⟨at_155, rfl⟩
theorem d0_158 : DAt B0 158 (.iload 12) 2 160 := ⟨at_158, rfl⟩
theorem d0_160 : DAt B0 160 (.goto 5) 3 163 := ⟨at_160, rfl⟩
theorem d0_163 : DAt B0 163 (.iload 13) 2 165 := ⟨at_163, rfl⟩
theorem d0_165 : DAt B0 165 (.istore 22) 2 167 := ⟨at_165, rfl⟩
theorem d0_167 : DAt B0 167 (.iload 16) 2 169 := ⟨at_167, rfl⟩
theorem d0_169 : DAt B0 169 (.bipush 7) 2 171 := ⟨at_169, rfl⟩
theorem d0_171 : DAt B0 171 (.if_icmp .ne 51) 3 174 := ⟨at_171, rfl⟩
theorem d0_174 : DAt B0 174 (.iload 17) 2 176 := ⟨at_174, rfl⟩
theorem d0_176 : DAt B0 176 (.iconst 4) 1 177 := ⟨at_176, rfl⟩
theorem d0_177 : DAt B0 177 (.if_icmp .ne 7) 3 180 := ⟨at_177, rfl⟩
theorem d0_180 : DAt B0 180 (.iconst 1) 1 181 := ⟨at_180, rfl⟩
theorem d0_181 : DAt B0 181 (.goto 4) 3 184 := ⟨at_181, rfl⟩
theorem d0_184 : DAt B0 184 (.iconst 0) 1 185 := ⟨at_184, rfl⟩
theorem d0_185 : DAt B0 185 (.istore 23) 2 187 := ⟨at_185, rfl⟩
theorem d0_187 : DAt B0 187 (.aload_n 1) 1 188 := ⟨at_187, rfl⟩
theorem d0_188 : DAt B0 188 (.iload 17) 2 190 := ⟨at_188, rfl⟩
theorem d0_190 : DAt B0 190 (.invokevirtual 38) 3 193 := ⟨at_190, rfl⟩
theorem d0_193 : DAt B0 193 (.iload 23) 2 195 := ⟨at_193, rfl⟩
theorem d0_195 : DAt B0 195 (.if_icmp .eq 5) 3 198 := ⟨at_195, rfl⟩
theorem d0_198 : DAt B0 198 (.iconst 0) 1 199 := ⟨at_198, rfl⟩
theorem d0_199 : DAt B0 199 (.ireturn) 1 200 := ⟨at_199, rfl⟩
theorem d0_200 : DAt B0 200 (.iload 23) 2 202 := ⟨at_200, rfl⟩
theorem d0_202 : DAt B0 202 (.ifCond .ne 181) 3 205 := ⟨at_202, rfl⟩
theorem d0_205 : DAt B0 205 (.lconst 0) 1 206 := ⟨at_205, rfl⟩
theorem d0_206 : DAt B0 206 (.lstore 20) 2 208 := ⟨at_206, rfl⟩
theorem d0_208 : DAt B0 208 (.iconst 0) 1 209 := ⟨at_208, rfl⟩
theorem d0_209 : DAt B0 209 (.istore 22) 2 211 := ⟨at_209, rfl⟩
theorem d0_211 : DAt B0 211 (.iload 19) 2 213 := ⟨at_211, rfl⟩
theorem d0_213 : DAt B0 213 (.ifCond .eq 170) 3 216 := ⟨at_213, rfl⟩
theorem d0_216 : DAt B0 216 (.iinc 14 1) 3 219 := ⟨at_216, rfl⟩
theorem d0_219 : DAt B0 219 (.goto 164) 3 222 := ⟨at_219, rfl⟩
theorem d0_222 : DAt B0 222 (.iload 17) 2 224 := ⟨at_222, rfl⟩
theorem d0_224 : DAt B0 224 (.iconst 4) 1 225 := ⟨at_224, rfl⟩
theorem d0_225 : DAt B0 225 (.if_icmp .ne 7) 3 228 := ⟨at_225, rfl⟩
theorem d0_228 : DAt B0 228 (.iconst 1) 1 229 := ⟨at_228, rfl⟩
theorem d0_229 : DAt B0 229 (.goto 24) 3 232 := ⟨at_229, rfl⟩
theorem d0_232 : DAt B0 232 (.iload 18) 2 234 := ⟨at_232, rfl⟩
theorem d0_234 : DAt B0 234 (.bipush 64) 2 236 := ⟨at_234, rfl⟩
theorem d0_236 : DAt B0 236 (.if_icmp .lt 7) 3 239 := ⟨at_236, rfl⟩
theorem d0_239 : DAt B0 239 (.iconst 2) 1 240 := ⟨at_239, rfl⟩
theorem d0_240 : DAt B0 240 (.goto 13) 3 243 := ⟨at_240, rfl⟩
theorem d0_243 : DAt B0 243 (.iload 19) 2 245 := ⟨at_243, rfl⟩
theorem d0_245 : DAt B0 245 (.ifCond .eq 7) 3 248 := ⟨at_245, rfl⟩
theorem d0_248 : DAt B0 248 (.iconst 3) 1 249 := ⟨at_248, rfl⟩
theorem d0_249 : DAt B0 249 (.goto 4) 3 252 := ⟨at_249, rfl⟩
theorem d0_252 : DAt B0 252 (.iconst 0) 1 253 := ⟨at_252, rfl⟩
theorem d0_253 : DAt B0 253 (.istore 23) 2 255 := ⟨at_253, rfl⟩
theorem d0_255 : DAt B0 255 (.iload 16) 2 257 := ⟨at_255, rfl⟩
theorem d0_257 : DAt B0 257 (.iconst 3) 1 258 := ⟨at_257, rfl⟩
theorem d0_258 : DAt B0 258 (.if_icmp .ge 62) 3 261 := ⟨at_258, rfl⟩
theorem d0_261 : DAt B0 261 (.aload_n 1) 1 262 := ⟨at_261, rfl⟩
theorem d0_262 : DAt B0 262 (.iload 17) 2 264 := ⟨at_262, rfl⟩
theorem d0_264 : DAt B0 264 (.iload 18) 2 266 := ⟨at_264, rfl⟩
theorem d0_266 : DAt B0 266 (.invokevirtual 41) 3 269 := ⟨at_266, rfl⟩
theorem d0_269 : DAt B0 269 (.lstore 24) 2 271 := ⟨at_269, rfl⟩
theorem d0_271 : DAt B0 271 (.ldc2_w 45) 3 274 := ⟨at_271, rfl⟩
theorem d0_274 : DAt B0 274 (.lstore 26) 2 276 := ⟨at_274, rfl⟩
theorem d0_276 : DAt B0 276 (.iload 23) 2 278 := ⟨at_276, rfl⟩
theorem d0_278 : DAt B0 278 (.ifCond .ne 29) 3 281 := ⟨at_278, rfl⟩
theorem d0_281 : DAt B0 281 (.lload 20) 2 283 := ⟨at_281, rfl⟩
theorem d0_283 : DAt B0 283 (.iload 18) 2 285 := ⟨at_283, rfl⟩
theorem d0_285 : DAt B0 285 (.lushr) 1 286 := ⟨at_285, rfl⟩
theorem d0_286 : DAt B0 286 (.lconst 1) 1 287 := ⟨at_286, rfl⟩
theorem d0_287 : DAt B0 287 (.land) 1 288 := ⟨at_287, rfl⟩
theorem d0_288 : DAt B0 288 (.lconst 0) 1 289 := ⟨at_288, rfl⟩
theorem d0_289 : DAt B0 289 (.lcmp) 1 290 := ⟨at_289, rfl⟩
theorem d0_290 : DAt B0 290 (.ifCond .eq 14) 3 293 := ⟨at_290, rfl⟩
theorem d0_293 : DAt B0 293 (.iload 17) 2 295 := ⟨at_293, rfl⟩
theorem d0_295 : DAt B0 295 (.iload 18) 2 297 := ⟨at_295, rfl⟩
theorem d0_297 : DAt B0 297 (.invokestatic 7) 3 300 := ⟨at_297, rfl⟩
theorem d0_300 : DAt B0 300 (.i2l) 1 301 := ⟨at_300, rfl⟩
theorem d0_301 : DAt B0 301 (.goto 4) 3 304 := ⟨at_301, rfl⟩
theorem d0_304 : DAt B0 304 (.lconst 0) 1 305 := ⟨at_304, rfl⟩
theorem d0_305 : DAt B0 305 (.lstore 26) 2 307 := ⟨at_305, rfl⟩
theorem d0_307 : DAt B0 307 (.lload 24) 2 309 := ⟨at_307, rfl⟩
theorem d0_309 : DAt B0 309 (.lload 26) 2 311 := ⟨at_309, rfl⟩
theorem d0_311 : DAt B0 311 (.lcmp) 1 312 := ⟨at_311, rfl⟩
theorem d0_312 : DAt B0 312 (.ifCond .eq 5) 3 315 := ⟨at_312, rfl⟩
theorem d0_315 : DAt B0 315 (.iconst 0) 1 316 := ⟨at_315, rfl⟩
theorem d0_316 : DAt B0 316 (.ireturn) 1 317 := ⟨at_316, rfl⟩
theorem d0_317 : DAt B0 317 (.goto 43) 3 320 := ⟨at_317, rfl⟩
theorem d0_320 : DAt B0 320 (.iload 17) 2 322 := ⟨at_320, rfl⟩
theorem d0_322 : DAt B0 322 (.iload 18) 2 324 := ⟨at_322, rfl⟩
theorem d0_324 : DAt B0 324 (.invokestatic 7) 3 327 := ⟨at_324, rfl⟩
theorem d0_327 : DAt B0 327 (.istore 24) 2 329 := ⟨at_327, rfl⟩
theorem d0_329 : DAt B0 329 (.aload_n 1) 1 330 := ⟨at_329, rfl⟩
theorem d0_330 : DAt B0 330 (.iload 17) 2 332 := ⟨at_330, rfl⟩
theorem d0_332 : DAt B0 332 (.iload 18) 2 334 := ⟨at_332, rfl⟩
theorem d0_334 : DAt B0 334 (.iload 24) 2 336 := ⟨at_334, rfl⟩
theorem d0_336 : DAt B0 336 (.invokevirtual 47) 3 339 := ⟨at_336, rfl⟩
theorem d0_339 : DAt B0 339 (.iload 23) 2 341 := ⟨at_339, rfl⟩
theorem d0_341 : DAt B0 341 (.if_icmp .eq 5) 3 344 := ⟨at_341, rfl⟩
theorem d0_344 : DAt B0 344 (.iconst 0) 1 345 := ⟨at_344, rfl⟩
theorem d0_345 : DAt B0 345 (.ireturn) 1 346 := ⟨at_345, rfl⟩
theorem d0_346 : DAt B0 346 (.iload 23) 2 348 := ⟨at_346, rfl⟩
theorem d0_348 : DAt B0 348 (.ifCond .ne 12) 3 351 := ⟨at_348, rfl⟩
theorem d0_351 : DAt B0 351 (.lload 20) 2 353 := ⟨at_351, rfl⟩
theorem d0_353 : DAt B0 353 (.lconst 1) 1 354 := ⟨at_353, rfl⟩
theorem d0_354 : DAt B0 354 (.iload 18) 2 356 := ⟨at_354, rfl⟩
theorem d0_356 : DAt B0 356 (.lshl) 1 357 := ⟨at_356, rfl⟩
theorem d0_357 : DAt B0 357 (.lor) 1 358 := ⟨at_357, rfl⟩
theorem d0_358 : DAt B0 358 (.lstore 20) 2 360 := ⟨at_358, rfl⟩
theorem d0_360 : DAt B0 360 (.iload 23) 2 362 := ⟨at_360, rfl⟩
theorem d0_362 : DAt B0 362 (.ifCond .ne 21) 3 365 := ⟨at_362, rfl⟩
theorem d0_365 : DAt B0 365 (.iinc 22 1) 3 368 := ⟨at_365, rfl⟩
theorem d0_368 : DAt B0 368 (.aload_n 1) 1 369 := ⟨at_368, rfl⟩
theorem d0_369 : DAt B0 369 (.iload 17) 2 371 := ⟨at_369, rfl⟩
theorem d0_371 : DAt B0 371 (.iload 18) 2 373 := ⟨at_371, rfl⟩
theorem d0_373 : DAt B0 373 (.iconst 4) 1 374 := ⟨at_373, rfl⟩
theorem d0_374 : DAt B0 374 (.idiv) 1 375 := ⟨at_374, rfl⟩
theorem d0_375 : DAt B0 375 (.invokevirtual 51) 3 378 := ⟨at_375, rfl⟩
theorem d0_378 : DAt B0 378 (.ifCond .ne 5) 3 381 := ⟨at_378, rfl⟩
theorem d0_381 : DAt B0 381 (.iconst 0) 1 382 := ⟨at_381, rfl⟩
theorem d0_382 : DAt B0 382 (.ireturn) 1 383 := ⟨at_382, rfl⟩
theorem d0_383 : DAt B0 383 (.iload 23) 2 385 := ⟨at_383, rfl⟩
theorem d0_385 : DAt B0 385 (.ifCond .ne 14) 3 388 := ⟨at_385, rfl⟩
theorem d0_388 : DAt B0 388 (.aload_n 1) 1 389 := ⟨at_388, rfl⟩
theorem d0_389 : DAt B0 389 (.iload 17) 2 391 := ⟨at_389, rfl⟩
theorem d0_391 : DAt B0 391 (.invokevirtual 34) 3 394 := ⟨at_391, rfl⟩
theorem d0_394 : DAt B0 394 (.ifCond .eq 5) 3 397 := ⟨at_394, rfl⟩
theorem d0_397 : DAt B0 397 (.iconst 0) 1 398 := ⟨at_397, rfl⟩
theorem d0_398 : DAt B0 398 (.ireturn) 1 399 := ⟨at_398, rfl⟩
theorem d0_399 : DAt B0 399 (.iload 17) 2 401 := ⟨at_399, rfl⟩
theorem d0_401 : DAt B0 401 (.ifCond .ne 13) 3 404 := ⟨at_401, rfl⟩
theorem d0_404 : DAt B0 404 (.lload 20) 2 406 := ⟨at_404, rfl⟩
theorem d0_406 : DAt B0 406 (.lstore_n 2) 1 407 := ⟨at_406, rfl⟩
theorem d0_407 : DAt B0 407 (.iload 22) 2 409 := ⟨at_407, rfl⟩
theorem d0_409 : DAt B0 409 (.istore 10) 2 411 := ⟨at_409, rfl⟩
theorem d0_411 : DAt B0 411 (.goto 51) 3 414 := ⟨at_411, rfl⟩
theorem d0_414 : DAt B0 414 (.iload 17) 2 416 := ⟨at_414, rfl⟩
theorem d0_416 : DAt B0 416 (.iconst 1) 1 417 := ⟨at_416, rfl⟩
theorem d0_417 : DAt B0 417 (.if_icmp .ne 14) 3 420 := ⟨at_417, rfl⟩
theorem d0_420 : DAt B0 420 (.lload 20) 2 422 := ⟨at_420, rfl⟩
theorem d0_422 : DAt B0 422 (.lstore 4) 2 424 := ⟨at_422, rfl⟩
theorem d0_424 : DAt B0 424 (.iload 22) 2 426 := ⟨at_424, rfl⟩
theorem d0_426 : DAt B0 426 (.istore 11) 2 428 := ⟨at_426, rfl⟩
theorem d0_428 : DAt B0 428 (.goto 34) 3 431 := ⟨at_428, rfl⟩
theorem d0_431 : DAt B0 431 (.iload 17) 2 433 := ⟨at_431, rfl⟩
theorem d0_433 : DAt B0 433 (.iconst 2) 1 434 := ⟨at_433, rfl⟩
theorem d0_434 : DAt B0 434 (.if_icmp .ne 14) 3 437 := ⟨at_434, rfl⟩
theorem d0_437 : DAt B0 437 (.lload 20) 2 439 := ⟨at_437, rfl⟩
theorem d0_439 : DAt B0 439 (.lstore 6) 2 441 := ⟨at_439, rfl⟩
theorem d0_441 : DAt B0 441 (.iload 22) 2 443 := ⟨at_441, rfl⟩
theorem d0_443 : DAt B0 443 (.istore 12) 2 445 := ⟨at_443, rfl⟩
theorem d0_445 : DAt B0 445 (.goto 17) 3 448 := ⟨at_445, rfl⟩
theorem d0_448 : DAt B0 448 (.iload 17) 2 450 := ⟨at_448, rfl⟩
theorem d0_450 : DAt B0 450 (.iconst 3) 1 451 := ⟨at_450, rfl⟩
theorem d0_451 : DAt B0 451 (.if_icmp .ne 11) 3 454 := ⟨at_451, rfl⟩
theorem d0_454 : DAt B0 454 (.lload 20) 2 456 := ⟨at_454, rfl⟩
theorem d0_456 : DAt B0 456 (.lstore 8) 2 458 := ⟨at_456, rfl⟩
theorem d0_458 : DAt B0 458 (.iload 22) 2 460 := ⟨at_458, rfl⟩
theorem d0_460 : DAt B0 460 (.istore 13) 2 462 := ⟨at_460, rfl⟩
theorem d0_462 : DAt B0 462 (.aload_n 1) 1 463 := ⟨at_462, rfl⟩
theorem d0_463 : DAt B0 463 (.invokevirtual 55) 3 466 := ⟨at_463, rfl⟩
theorem d0_466 : DAt B0 466 (.iload 23) 2 468 := ⟨at_466, rfl⟩
theorem d0_468 : DAt B0 468 (.if_icmp .eq 5) 3 471 := ⟨at_468, rfl⟩
theorem d0_471 : DAt B0 471 (.iconst 0) 1 472 := ⟨at_471, rfl⟩
theorem d0_472 : DAt B0 472 (.ireturn) 1 473 := ⟨at_472, rfl⟩
theorem d0_473 : DAt B0 473 (.iconst 0) 1 474 := ⟨at_473, rfl⟩
theorem d0_474 : DAt B0 474 (.istore 24) 2 476 := ⟨at_474, rfl⟩
theorem d0_476 : DAt B0 476 (.iconst 0) 1 477 := ⟨at_476, rfl⟩
theorem d0_477 : DAt B0 477 (.istore 25) 2 479 := ⟨at_477, rfl⟩
theorem d0_479 : DAt B0 479 (.iconst 0) 1 480 := ⟨at_479, rfl⟩
theorem d0_480 : DAt B0 480 (.istore 26) 2 482 := ⟨at_480, rfl⟩
theorem d0_482 : DAt B0 482 (.iload 26) 2 484 := ⟨at_482, rfl⟩
theorem d0_484 : DAt B0 484 (.iconst 4) 1 485 := ⟨at_484, rfl⟩
theorem d0_485 : DAt B0 485 (.if_icmp .ge 35) 3 488 := ⟨at_485, rfl⟩
theorem d0_488 : DAt B0 488 (.aload_n 1) 1 489 := ⟨at_488, rfl⟩
theorem d0_489 : DAt B0 489 (.iload 26) 2 491 := ⟨at_489, rfl⟩
theorem d0_491 : DAt B0 491 (.invokevirtual 34) 3 494 := ⟨at_491, rfl⟩
theorem d0_494 : DAt B0 494 (.ifCond .eq 9) 3 497 := ⟨at_494, rfl⟩
theorem d0_497 : DAt B0 497 (.iinc 24 1) 3 500 := ⟨at_497, rfl⟩
theorem d0_500 : DAt B0 500 (.goto 14) 3 503 := ⟨at_500, rfl⟩
theorem d0_503 : DAt B0 503 (.iload 25) 2 505 := ⟨at_503, rfl⟩
theorem d0_505 : DAt B0 505 (.aload_n 1) 1 506 := ⟨at_505, rfl⟩
theorem d0_506 : DAt B0 506 (.iload 26) 2 508 := ⟨at_506, rfl⟩
theorem d0_508 : DAt B0 508 (.invokevirtual 15) 3 511 := ⟨at_508, rfl⟩
theorem d0_511 : DAt B0 511 (.iadd) 1 512 := ⟨at_511, rfl⟩
theorem d0_512 : DAt B0 512 (.istore 25) 2 514 := ⟨at_512, rfl⟩
theorem d0_514 : DAt B0 514 (.iinc 26 1) 3 517 := ⟨at_514, rfl⟩
theorem d0_517 : DAt B0 517 (.goto (-35)) 3 520 := ⟨at_517, rfl⟩
theorem d0_520 : DAt B0 520 (.aload_n 1) 1 521 := ⟨at_520, rfl⟩
theorem d0_521 : DAt B0 521 (.invokevirtual 59) 3 524 := ⟨at_521, rfl⟩
theorem d0_524 : DAt B0 524 (.iload 25) 2 526 := ⟨at_524, rfl⟩
theorem d0_526 : DAt B0 526 (.if_icmp .eq 5) 3 529 := ⟨at_526, rfl⟩
theorem d0_529 : DAt B0 529 (.iconst 0) 1 530 := ⟨at_529, rfl⟩
theorem d0_530 : DAt B0 530 (.ireturn) 1 531 := ⟨at_530, rfl⟩
theorem d0_531 : DAt B0 531 (.aload_n 1) 1 532 := ⟨at_531, rfl⟩
theorem d0_532 : DAt B0 532 (.invokevirtual 62) 3 535 := ⟨at_532, rfl⟩
theorem d0_535 : DAt B0 535 (.aload_n 1) 1 536 := ⟨at_535, rfl⟩
theorem d0_536 : DAt B0 536 (.invokevirtual 65) 3 539 := ⟨at_536, rfl⟩
theorem d0_539 : DAt B0 539 (.isub) 1 540 := ⟨at_539, rfl⟩
theorem d0_540 : DAt B0 540 (.iload 14) 2 542 := ⟨at_540, rfl⟩
theorem d0_542 : DAt B0 542 (.isub) 1 543 := ⟨at_542, rfl⟩
theorem d0_543 : DAt B0 543 (.iload 24) 2 545 := ⟨at_543, rfl⟩
theorem d0_545 : DAt B0 545 (.if_icmp .eq 5) 3 548 := ⟨at_545, rfl⟩
theorem d0_548 : DAt B0 548 (.iconst 0) 1 549 := ⟨at_548, rfl⟩
theorem d0_549 : DAt B0 549 (.ireturn) 1 550 := ⟨at_549, rfl⟩
theorem d0_550 : DAt B0 550 (.aload_n 1) 1 551 := ⟨at_550, rfl⟩
theorem d0_551 : DAt B0 551 (.iconst 0) 1 552 := ⟨at_551, rfl⟩
theorem d0_552 : DAt B0 552 (.iload 10) 2 554 := ⟨at_552, rfl⟩
theorem d0_554 : DAt B0 554 (.lload_n 2) 1 555 := ⟨at_554, rfl⟩
theorem d0_555 : DAt B0 555 (.invokestatic 68) 3 558 := ⟨at_555, rfl⟩
theorem d0_558 : DAt B0 558 (.ifCond .eq 39) 3 561 := ⟨at_558, rfl⟩
theorem d0_561 : DAt B0 561 (.aload_n 1) 1 562 := ⟨at_561, rfl⟩
theorem d0_562 : DAt B0 562 (.iconst 1) 1 563 := ⟨at_562, rfl⟩
theorem d0_563 : DAt B0 563 (.iload 11) 2 565 := ⟨at_563, rfl⟩
theorem d0_565 : DAt B0 565 (.lload 4) 2 567 := ⟨at_565, rfl⟩
theorem d0_567 : DAt B0 567 (.invokestatic 68) 3 570 := ⟨at_567, rfl⟩
theorem d0_570 : DAt B0 570 (.ifCond .eq 27) 3 573 := ⟨at_570, rfl⟩
theorem d0_573 : DAt B0 573 (.aload_n 1) 1 574 := ⟨at_573, rfl⟩
theorem d0_574 : DAt B0 574 (.iconst 2) 1 575 := ⟨at_574, rfl⟩
theorem d0_575 : DAt B0 575 (.iload 12) 2 577 := ⟨at_575, rfl⟩
theorem d0_577 : DAt B0 577 (.lload 6) 2 579 := ⟨at_577, rfl⟩
theorem d0_579 : DAt B0 579 (.invokestatic 68) 3 582 := ⟨at_579, rfl⟩
theorem d0_582 : DAt B0 582 (.ifCond .eq 15) 3 585 := ⟨at_582, rfl⟩
theorem d0_585 : DAt B0 585 (.aload_n 1) 1 586 := ⟨at_585, rfl⟩
theorem d0_586 : DAt B0 586 (.iconst 3) 1 587 := ⟨at_586, rfl⟩
theorem d0_587 : DAt B0 587 (.iload 13) 2 589 := ⟨at_587, rfl⟩
theorem d0_589 : DAt B0 589 (.lload 8) 2 591 := ⟨at_589, rfl⟩
theorem d0_591 : DAt B0 591 (.invokestatic 68) 3 594 := ⟨at_591, rfl⟩
theorem d0_594 : DAt B0 594 (.ifCond .ne 5) 3 597 := ⟨at_594, rfl⟩
theorem d0_597 : DAt B0 597 (.iconst 0) 1 598 := ⟨at_597, rfl⟩
theorem d0_598 : DAt B0 598 (.ireturn) 1 599 := ⟨at_598, rfl⟩
theorem d0_599 : DAt B0 599 (.iinc 15 3) 3 602 := ⟨at_599, rfl⟩
theorem d0_602 : DAt B0 602 (.goto (-559)) 3 605 := ⟨at_602, rfl⟩
theorem d0_605 : DAt B0 605 (.iconst 1) 1 606 := ⟨at_605, rfl⟩
theorem d0_606 : DAt B0 606 (.ireturn) 1 607 := ⟨at_606, rfl⟩
theorem ar1 : arity B1 4 := ⟨[.int, .int, .int, .int], none, by decide +kernel, rfl⟩
theorem ar2 : arity B2 3 := ⟨[.int, .int, .int], some .int, by decide +kernel, rfl⟩
theorem ar3 : arity B3 1 := ⟨[.int], some .boolean, by decide +kernel, rfl⟩
theorem ar4 : arity B4 1 := ⟨[.int], some .boolean, by decide +kernel, rfl⟩
theorem ar5 : arity B5 2 := ⟨[.int, .int], some .int, by decide +kernel, rfl⟩
theorem ar6 : arity B6 3 := ⟨[.int, .int, .int], some .int, by decide +kernel, rfl⟩
theorem ar7 : arity B7 2 := ⟨[.int, .int], some .int, by decide +kernel, rfl⟩
theorem ar8 : arity B8 2 := ⟨[.int, .int], some .int, by decide +kernel, rfl⟩
theorem ar9 : arity B9 0 := ⟨[], some .int, by decide +kernel, rfl⟩
theorem ar10 : arity B10 2 := ⟨[.int, .int], none, by decide +kernel, rfl⟩
theorem ar11 : arity B11 2 := ⟨[.int, .int], none, by decide +kernel, rfl⟩
theorem ar12 : arity B12 2 := ⟨[.int, .int], none, by decide +kernel, rfl⟩
theorem ar13 : arity B13 1 := ⟨[.int], none, by decide +kernel, rfl⟩
theorem ar14 : arity B14 0 := ⟨[], some .int, by decide +kernel, rfl⟩
theorem ar15 : arity B15 2 := ⟨[.int, .int], some .boolean, by decide +kernel, rfl⟩
theorem ar16 : arity B16 0 := ⟨[], some .int, by decide +kernel, rfl⟩
theorem ar17 : arity B17 1 := ⟨[.int], some .int, by decide +kernel, rfl⟩
theorem ar18 : arity B18 0 := ⟨[], some .int, by decide +kernel, rfl⟩
theorem ar19 : arity B19 0 := ⟨[], some .int, by decide +kernel, rfl⟩
theorem ar20 : arity B20 4 := ⟨[(.object "WsClockPager"), .int, .int, .long], some .boolean, by decide +kernel, rfl⟩
theorem ar21 : arity B21 1 := ⟨[.int], some .int, by decide +kernel, rfl⟩
theorem ar22 : arity B22 1 := ⟨[.int], some .int, by decide +kernel, rfl⟩
theorem ar23 : arity B23 1 := ⟨[.int], some .int, by decide +kernel, rfl⟩
theorem ar24 : arity B24 2 := ⟨[.int, .int], some .int, by decide +kernel, rfl⟩
theorem ar25 : arity B25 2 := ⟨[.int, .int], some .long, by decide +kernel, rfl⟩
theorem ar26 : arity B26 1 := ⟨[.int], some .int, by decide +kernel, rfl⟩
theorem ar27 : arity B27 1 := ⟨[.int], none, by decide +kernel, rfl⟩
theorem ar28 : arity B28 0 := ⟨[], some .int, by decide +kernel, rfl⟩
theorem ar29 : arity B29 1 := ⟨[.int], none, by decide +kernel, rfl⟩
theorem ar30 : arity B30 1 := ⟨[.int], some .int, by decide +kernel, rfl⟩
theorem ar31 : arity B31 1 := ⟨[.int], none, by decide +kernel, rfl⟩
theorem ar32 : arity B32 0 := ⟨[], some .int, by decide +kernel, rfl⟩
theorem cw1 : code_w B1 := ⟨mem1 5 rfl, mem1 2 rfl, by decide⟩
theorem cw2 : code_w B2 := ⟨mem1 50 rfl, mem1 2 rfl, by decide⟩
theorem cw3 : code_w B3 := ⟨mem1 72 rfl, mem1 2 rfl, by decide⟩
theorem cw4 : code_w B4 := ⟨mem1 76 rfl, mem1 2 rfl, by decide⟩
theorem cw5 : code_w B5 := ⟨mem1 80 rfl, mem1 79 rfl, by decide⟩
theorem cw6 : code_w B6 := ⟨mem1 85 rfl, mem1 2 rfl, by decide⟩
theorem cw7 : code_w B7 := ⟨mem1 89 rfl, mem1 2 rfl, by decide⟩
theorem cw8 : code_w B8 := ⟨mem1 93 rfl, mem1 2 rfl, by decide⟩
theorem cw9 : code_w B9 := ⟨mem1 97 rfl, mem1 2 rfl, by decide⟩
theorem cw10 : code_w B10 := ⟨mem1 101 rfl, mem1 2 rfl, by decide⟩
theorem cw11 : code_w B11 := ⟨mem1 105 rfl, mem1 2 rfl, by decide⟩
theorem cw12 : code_w B12 := ⟨mem1 109 rfl, mem1 2 rfl, by decide⟩
theorem cw13 : code_w B13 := ⟨mem1 113 rfl, mem1 2 rfl, by decide⟩
theorem cw14 : code_w B14 := ⟨mem1 118 rfl, mem1 2 rfl, by decide⟩
theorem cw15 : code_w B15 := ⟨mem1 123 rfl, mem1 2 rfl, by decide⟩
theorem cw16 : code_w B16 := ⟨mem1 128 rfl, mem1 2 rfl, by decide⟩
theorem cw17 : code_w B17 := ⟨mem1 133 rfl, mem1 2 rfl, by decide⟩
theorem cw18 : code_w B18 := ⟨mem1 139 rfl, mem1 2 rfl, by decide⟩
theorem cw19 : code_w B19 := ⟨mem1 144 rfl, mem1 2 rfl, by decide⟩
theorem cw20 : code_w B20 := ⟨mem1 147 rfl, mem1 79 rfl, by decide⟩
theorem cw21 : code_w B21 := ⟨mem1 153 rfl, mem1 2 rfl, by decide⟩
theorem cw22 : code_w B22 := ⟨mem1 158 rfl, mem1 2 rfl, by decide⟩
theorem cw23 : code_w B23 := ⟨mem1 163 rfl, mem1 2 rfl, by decide⟩
theorem cw24 : code_w B24 := ⟨mem1 167 rfl, mem1 2 rfl, by decide⟩
theorem cw25 : code_w B25 := ⟨mem1 172 rfl, mem1 2 rfl, by decide⟩
theorem cw26 : code_w B26 := ⟨mem1 179 rfl, mem1 2 rfl, by decide⟩
theorem cw27 : code_w B27 := ⟨mem1 183 rfl, mem1 2 rfl, by decide⟩
theorem cw28 : code_w B28 := ⟨mem1 187 rfl, mem1 2 rfl, by decide⟩
theorem cw29 : code_w B29 := ⟨mem1 191 rfl, mem1 2 rfl, by decide⟩
theorem cw30 : code_w B30 := ⟨mem1 195 rfl, mem1 2 rfl, by decide⟩
theorem cw31 : code_w B31 := ⟨mem1 199 rfl, mem1 2 rfl, by decide⟩
theorem cw32 : code_w B32 := ⟨mem1 203 rfl, mem1 2 rfl, by decide⟩
theorem rk0_3_0 : room_ok B0 B3 0 := by decide
theorem rk0_5_0 : room_ok B0 B5 0 := by decide
theorem rk0_6_0 : room_ok B0 B6 0 := by decide
theorem rk0_14_0 : room_ok B0 B14 0 := by decide
theorem rk0_15_0 : room_ok B0 B15 0 := by decide
theorem rk0_16_0 : room_ok B0 B16 0 := by decide
theorem rk0_17_1 : room_ok B0 B17 1 := by decide
theorem rk0_18_0 : room_ok B0 B18 0 := by decide
theorem rk0_19_1 : room_ok B0 B19 1 := by decide
theorem rk0_20_0 : room_ok B0 B20 0 := by decide
theorem rk0_25_0 : room_ok B0 B25 0 := by decide
theorem rk0_26_0 : room_ok B0 B26 0 := by decide
theorem rk1_2_1 : room_ok B1 B2 1 := by decide
theorem rk3_4_0 : room_ok B3 B4 0 := by decide
theorem rk6_7_0 : room_ok B6 B7 0 := by decide
theorem rk6_8_0 : room_ok B6 B8 0 := by decide
theorem rk6_11_0 : room_ok B6 B11 0 := by decide
theorem rk6_13_0 : room_ok B6 B13 0 := by decide
theorem rk7_4_0 : room_ok B7 B4 0 := by decide
theorem rk8_9_0 : room_ok B8 B9 0 := by decide
theorem rk8_10_0 : room_ok B8 B10 0 := by decide
theorem rk8_28_0 : room_ok B8 B28 0 := by decide
theorem rk8_29_0 : room_ok B8 B29 0 := by decide
theorem rk11_12_0 : room_ok B11 B12 0 := by decide
theorem rk13_14_0 : room_ok B13 B14 0 := by decide
theorem rk13_30_0 : room_ok B13 B30 0 := by decide
theorem rk15_4_0 : room_ok B15 B4 0 := by decide
theorem rk17_4_0 : room_ok B17 B4 0 := by decide
theorem rk20_5_1 : room_ok B20 B5 1 := by decide
theorem rk20_17_0 : room_ok B20 B17 0 := by decide
theorem rk20_21_0 : room_ok B20 B21 0 := by decide
theorem rk20_22_0 : room_ok B20 B22 0 := by decide
theorem rk20_23_0 : room_ok B20 B23 0 := by decide
theorem rk21_4_0 : room_ok B21 B4 0 := by decide
theorem rk22_4_0 : room_ok B22 B4 0 := by decide
theorem rk23_4_0 : room_ok B23 B4 0 := by decide
theorem rk23_24_1 : room_ok B23 B24 1 := by decide
theorem rk25_7_0 : room_ok B25 B7 0 := by decide
theorem rk25_8_0 : room_ok B25 B8 0 := by decide
theorem rk25_11_0 : room_ok B25 B11 0 := by decide
theorem rk25_13_0 : room_ok B25 B13 0 := by decide
theorem rk26_4_0 : room_ok B26 B4 0 := by decide
theorem rk26_13_0 : room_ok B26 B13 0 := by decide
theorem rk26_27_0 : room_ok B26 B27 0 := by decide
theorem rk28_31_0 : room_ok B28 B31 0 := by decide
theorem rk29_31_0 : room_ok B29 B31 0 := by decide
theorem rk31_32_0 : room_ok B31 B32 0 := by decide
def X_clamp (ob : Rec) (i1 : Int32) (i2 : Int32) (i3 : Int32) : Option (Int32) :=
  if i1 < i2 then
    some i2
  else
    if i3 < i1 then
      some i3
    else
      some i1
set_option maxRecDepth 65536 in
set_option maxHeartbeats 4000000 in
theorem X_clamp_p {C : Ctx} {top : Nat} {a : Nat} {H : List (Nat × Nat × Rec)} {ob : Rec} {res : Int32} (i1 : Int32) (i2 : Int32) (i3 : Int32) (hf : X_clamp ob i1 i2 i3 = some res) : Runs C B2 0 0 0 [vr a, vi i1, vi i2, vi i3] [] (top, (a, 18, ob) :: H) (Ans (some (.int res)) (top, (a, 18, ob) :: H)) := by
  delta X_clamp at hf
  refine Runs.iloadN d2_0 rfl <| Runs.iloadN d2_1 rfl <| ?_
  refine ite_el hf (fun hc1 hf => ?_) (fun hc1 hf => ?_)
  · refine Runs.icN d2_2 (tlt hc1).2.1 <| ?_
    obtain rfl := Option.some.inj hf
    exact Runs.iloadN d2_5 rfl <| Runs.retI d2_6 rfl ⟨by decide, by decide⟩ ⟨rfl, rfl⟩
  · refine Runs.icY (pc' := 7) d2_2 (flt hc1).2.1 (by decide) <| ?_
    refine Runs.iloadN d2_7 rfl <| Runs.iloadN d2_8 rfl <| ?_
    refine ite_el hf (fun hc2 hf => ?_) (fun hc2 hf => ?_)
    · refine Runs.icN d2_9 (tlt hc2).2.2.2 <| ?_
      obtain rfl := Option.some.inj hf
      exact Runs.iloadN d2_12 rfl <| Runs.retI d2_13 rfl ⟨by decide, by decide⟩ ⟨rfl, rfl⟩
    · refine Runs.icY (pc' := 14) d2_9 (flt hc2).2.2.2 (by decide) <| ?_
      obtain rfl := Option.some.inj hf
      exact Runs.iloadN d2_14 rfl <| Runs.retI d2_15 rfl ⟨by decide, by decide⟩ ⟨rfl, rfl⟩
theorem X_clamp_pay {C : Ctx} {top : Nat} {a : Nat} {H : List (Nat × Nat × Rec)} {ob : Rec} {res : Int32} {i1 : Int32} {i2 : Int32} {i3 : Int32} (hf : X_clamp ob i1 i2 i3 = some res) : Pays C B2 [.ref a, .int i1, .int i2, .int i3] (top, (a, 18, ob) :: H) (Ans (some (.int res)) (top, (a, 18, ob) :: H)) :=
  Pays.of pnK (Nat.le_of_ble_eq_true rfl) (P := [vr a, vi i1, vi i2, vi i3]) 0 rfl (X_clamp_p i1 i2 i3 hf)
def X_init_w247 (NF : Nat) (k247 : Rec → Int32 → Option (Rec)) (ob : Rec) (i5 : Int32) : Option (Rec) :=
  if i5 < (32 : Int32) then
    chk (32 : Int32) i5 <|
    k247 (sA ob 12 i5 (-1 : Int32)) (i5 + (1 : Int32))
  else
    some ob
def X_init_l247 (NF : Nat) : Nat → Rec → Int32 → Option (Rec)
  | 0, _, _ => none
  | n + 1, ob, i5 => X_init_w247 NF (X_init_l247 NF n) ob i5
set_option maxRecDepth 65536 in
set_option maxHeartbeats 4000000 in
theorem X_init_w247_p {C : Ctx} {a : Nat} {H : List (Nat × Nat × Rec)} {res : Rec} {NF : Nat} (k247 : Rec → Int32 → Option (Rec)) (hk247 : ∀ (ob : Rec) (i5 : Int32), k247 ob i5 = some res → Runs C B1 18 952 247 [vr a, vn, vn, vn, vn, vi i5] [] (a + 1 + 18, (a, 18, ob) :: H) (Ans none (a + 1 + 18, (a, 18, res) :: H))) (ob : Rec) (i5 : Int32) (hf : X_init_w247 NF k247 ob i5 = some res) : Runs C B1 18 952 247 [vr a, vn, vn, vn, vn, vi i5] [] (a + 1 + 18, (a, 18, ob) :: H) (Ans none (a + 1 + 18, (a, 18, res) :: H)) := by
  delta X_init_w247 at hf
  refine Runs.iload d1_247 rfl <| Runs.bipush d1_249 cb_32 <| ?_
  refine ite_el hf (fun hc4 hf => ?_) (fun hc4 hf => ?_)
  · refine Runs.icN d1_251 (tlt hc4).2.1 <| ?_
    refine Runs.aloadN d1_254 rfl <| Runs.getA d1_255 fA_12 w35 (by decide) <| Runs.iload d1_258 rfl <| Runs.iconst d1_260 ci_m1 <| ?_
    refine chk_el hf fun hi5 hf => ?_
    exact Runs.iastoreA d1_261 fA_12 (by decide) hi5 <| Runs.iinc (P' := [vr a, vn, vn, vn, vn, vi (i5 + (1 : Int32))]) d1_262 ci_1 rfl (by decide) rfl <| Runs.goto (pc' := 247) d1_265 (by decide) <| hk247 (sA ob 12 i5 (-1 : Int32)) (i5 + (1 : Int32)) hf
  · refine Runs.icY (pc' := 268) d1_251 (flt hc4).2.1 (by decide) <| ?_
    obtain rfl := Option.some.inj hf
    exact Runs.retV d1_268 rfl ⟨by decide, by decide⟩ ⟨rfl, rfl⟩
theorem X_init_l247_p {C : Ctx} {a : Nat} {H : List (Nat × Nat × Rec)} {res : Rec} {NF : Nat} (n : Nat) (ob : Rec) (i5 : Int32) (hf : X_init_l247 NF n ob i5 = some res) : Runs C B1 18 952 247 [vr a, vn, vn, vn, vn, vi i5] [] (a + 1 + 18, (a, 18, ob) :: H) (Ans none (a + 1 + 18, (a, 18, res) :: H)) := by
  induction n generalizing ob i5 with
  | zero => cases (show (none : Option (Rec)) = some res from hf)
  | succ n ih => exact X_init_w247_p (X_init_l247 NF n) (fun ob i5 h => ih _ _ h) ob i5 hf
def X_init_w215 (NF : Nat) (k215 : Rec → Int32 → Option (Rec)) (ob : Rec) (i5 : Int32) : Option (Rec) :=
  if i5 < (64 : Int32) then
    chk (64 : Int32) i5 <|
    chk (64 : Int32) i5 <|
    k215 (sA (sA ob 9 i5 (-1 : Int32)) 10 i5 (-1 : Int32)) (i5 + (1 : Int32))
  else
    X_init_l247 NF NF ob (0 : Int32)
def X_init_l215 (NF : Nat) : Nat → Rec → Int32 → Option (Rec)
  | 0, _, _ => none
  | n + 1, ob, i5 => X_init_w215 NF (X_init_l215 NF n) ob i5
set_option maxRecDepth 65536 in
set_option maxHeartbeats 4000000 in
theorem X_init_w215_p {C : Ctx} {a : Nat} {H : List (Nat × Nat × Rec)} {res : Rec} {NF : Nat} (k215 : Rec → Int32 → Option (Rec)) (hk215 : ∀ (ob : Rec) (i5 : Int32), k215 ob i5 = some res → Runs C B1 18 952 215 [vr a, vn, vn, vn, vn, vi i5] [] (a + 1 + 18, (a, 18, ob) :: H) (Ans none (a + 1 + 18, (a, 18, res) :: H))) (ob : Rec) (i5 : Int32) (hf : X_init_w215 NF k215 ob i5 = some res) : Runs C B1 18 952 215 [vr a, vn, vn, vn, vn, vi i5] [] (a + 1 + 18, (a, 18, ob) :: H) (Ans none (a + 1 + 18, (a, 18, res) :: H)) := by
  delta X_init_w215 at hf
  refine Runs.iload d1_215 rfl <| Runs.bipush d1_217 cb_64 <| ?_
  refine ite_el hf (fun hc1 hf => ?_) (fun hc1 hf => ?_)
  · refine Runs.icN d1_219 (tlt hc1).2.1 <| ?_
    refine Runs.aloadN d1_222 rfl <| Runs.getA d1_223 fA_9 w29 (by decide) <| Runs.iload d1_226 rfl <| Runs.iconst d1_228 ci_m1 <| ?_
    refine chk_el hf fun hi2 hf => ?_
    refine Runs.iastoreA d1_229 fA_9 (by decide) hi2 <| Runs.aloadN d1_230 rfl <| Runs.getA d1_231 fA_10 w31 (by decide) <| Runs.iload d1_234 rfl <| Runs.iconst d1_236 ci_m1 <| ?_
    refine chk_el hf fun hi3 hf => ?_
    exact Runs.iastoreA d1_237 fA_10 (by decide) hi3 <| Runs.iinc (P' := [vr a, vn, vn, vn, vn, vi (i5 + (1 : Int32))]) d1_238 ci_1 rfl (by decide) rfl <| Runs.goto (pc' := 215) d1_241 (by decide) <| hk215 (sA (sA ob 9 i5 (-1 : Int32)) 10 i5 (-1 : Int32)) (i5 + (1 : Int32)) hf
  · refine Runs.icY (pc' := 244) d1_219 (flt hc1).2.1 (by decide) <| ?_
    exact Runs.iconst d1_244 ci_0 <| Runs.istore (P' := [vr a, vn, vn, vn, vn, vi (0 : Int32)]) d1_245 (by decide) rfl <| X_init_l247_p NF ob (0 : Int32) hf
theorem X_init_l215_p {C : Ctx} {a : Nat} {H : List (Nat × Nat × Rec)} {res : Rec} {NF : Nat} (n : Nat) (ob : Rec) (i5 : Int32) (hf : X_init_l215 NF n ob i5 = some res) : Runs C B1 18 952 215 [vr a, vn, vn, vn, vn, vi i5] [] (a + 1 + 18, (a, 18, ob) :: H) (Ans none (a + 1 + 18, (a, 18, res) :: H)) := by
  induction n generalizing ob i5 with
  | zero => cases (show (none : Option (Rec)) = some res from hf)
  | succ n ih => exact X_init_w215_p (X_init_l215 NF n) (fun ob i5 h => ih _ _ h) ob i5 hf
def X_init (NF : Nat) (i1 : Int32) (i2 : Int32) (i3 : Int32) (i4 : Int32) : Option (Rec) :=
  (X_clamp zrec i1 (1 : Int32) (4 : Int32)).bind fun r6 =>
  (X_clamp (sI zrec 0 r6) i2 (4 : Int32) (16 : Int32)).bind fun r8 =>
  (X_clamp (sI (sI zrec 0 r6) 1 r8) i3 (4 : Int32) (32 : Int32)).bind fun r10 =>
  (X_clamp (sI (sI (sI zrec 0 r6) 1 r8) 2 r10) i4 (1 : Int32) (16 : Int32)).bind fun r12 =>
  X_init_l215 NF NF (sI (sI (sI (sI (sI (sI (sI (sI zrec 0 r6) 1 r8) 2 r10) 3 r12) 4 (0 : Int32)) 5 (0 : Int32)) 6 (0 : Int32)) 7 (0 : Int32)) (0 : Int32)
set_option maxRecDepth 65536 in
set_option maxHeartbeats 4000000 in
theorem X_init_p {C : Ctx} {a : Nat} {H : List (Nat × Nat × Rec)} {res : Rec} {NF : Nat} (i1 : Int32) (i2 : Int32) (i3 : Int32) (i4 : Int32) (hf : X_init NF i1 i2 i3 i4 = some res) : Runs C B1 0 0 0 [vr a, vi i1, vi i2, vi i3, vi i4, vn] [] (a + 1, (a, 0, zrec) :: H) (Ans none (a + 1 + 18, (a, 18, res) :: H)) := by
  delta X_init at hf
  refine Runs.aloadN d1_0 rfl <| Runs.initO (W := 0) d1_1 w6 w7 w8 rfl (by decide) <| Runs.aloadN d1_4 rfl <| Runs.iconst d1_5 ci_4 <| Runs.newArr (j' := 1) (top' := a + 1 + 1) (k' := 1) (n' := 4) d1_6 d1_8 fA_0 w10 rfl w9 (Or.inl w11) rfl (by decide) ⟨by decide, by decide⟩ ⟨fun _ => rfl, fun _ => rfl⟩ rfl rfl rfl (by decide) <| Runs.aloadN d1_11 rfl <| Runs.iconst d1_12 ci_4 <| Runs.newArr (j' := 2) (top' := a + 1 + 2) (k' := 2) (n' := 8) d1_13 d1_15 fA_1 w13 rfl w12 (Or.inl w14) rfl (by decide) ⟨by decide, by decide⟩ ⟨fun _ => rfl, fun _ => rfl⟩ rfl rfl rfl (by decide) <| Runs.aloadN d1_18 rfl <| Runs.iconst d1_19 ci_4 <| Runs.newArr (j' := 3) (top' := a + 1 + 3) (k' := 3) (n' := 12) d1_20 d1_22 fA_2 w15 rfl w12 (Or.inl w16) rfl (by decide) ⟨by decide, by decide⟩ ⟨fun _ => rfl, fun _ => rfl⟩ rfl rfl rfl (by decide) <| Runs.aloadN d1_25 rfl <| ?_
  refine Runs.iconst d1_26 ci_4 <| Runs.newArr (j' := 4) (top' := a + 1 + 4) (k' := 4) (n' := 16) d1_27 d1_29 fA_3 w17 rfl w12 (Or.inl w18) rfl (by decide) ⟨by decide, by decide⟩ ⟨fun _ => rfl, fun _ => rfl⟩ rfl rfl rfl (by decide) <| Runs.aloadN d1_32 rfl <| Runs.iconst d1_33 ci_4 <| Runs.newArr (j' := 5) (top' := a + 1 + 5) (k' := 5) (n' := 20) d1_34 d1_36 fA_4 w19 rfl w12 (Or.inl w20) rfl (by decide) ⟨by decide, by decide⟩ ⟨fun _ => rfl, fun _ => rfl⟩ rfl rfl rfl (by decide) <| Runs.aloadN d1_39 rfl <| Runs.iconst d1_40 ci_4 <| Runs.newArr (j' := 6) (top' := a + 1 + 6) (k' := 6) (n' := 24) d1_41 d1_43 fA_5 w21 rfl w12 (Or.inl w22) rfl (by decide) ⟨by decide, by decide⟩ ⟨fun _ => rfl, fun _ => rfl⟩ rfl rfl rfl (by decide) <| Runs.aloadN d1_46 rfl <| Runs.bipush d1_47 cb_64 <| Runs.newArr (j' := 7) (top' := a + 1 + 7) (k' := 7) (n' := 88) d1_49 d1_51 fA_6 w23 rfl w12 (Or.inl w24) rfl (by decide) ⟨by decide, by decide⟩ ⟨fun _ => rfl, fun _ => rfl⟩ rfl rfl rfl (by decide) <| Runs.aloadN d1_54 rfl <| ?_
  refine Runs.bipush d1_55 cb_64 <| Runs.newArr (j' := 8) (top' := a + 1 + 8) (k' := 8) (n' := 152) d1_57 d1_59 fA_7 w25 rfl w12 (Or.inl w26) rfl (by decide) ⟨by decide, by decide⟩ ⟨fun _ => rfl, fun _ => rfl⟩ rfl rfl rfl (by decide) <| Runs.aloadN d1_62 rfl <| Runs.bipush d1_63 cb_64 <| Runs.newArr (j' := 9) (top' := a + 1 + 9) (k' := 9) (n' := 216) d1_65 d1_67 fA_8 w27 rfl w9 (Or.inl w28) rfl (by decide) ⟨by decide, by decide⟩ ⟨fun _ => rfl, fun _ => rfl⟩ rfl rfl rfl (by decide) <| Runs.aloadN d1_70 rfl <| Runs.bipush d1_71 cb_64 <| Runs.newArr (j' := 10) (top' := a + 1 + 10) (k' := 10) (n' := 280) d1_73 d1_75 fA_9 w29 rfl w12 (Or.inl w30) rfl (by decide) ⟨by decide, by decide⟩ ⟨fun _ => rfl, fun _ => rfl⟩ rfl rfl rfl (by decide) <| Runs.aloadN d1_78 rfl <| Runs.bipush d1_79 cb_64 <| Runs.newArr (j' := 11) (top' := a + 1 + 11) (k' := 11) (n' := 344) d1_81 d1_83 fA_10 w31 rfl w12 (Or.inl w32) rfl (by decide) ⟨by decide, by decide⟩ ⟨fun _ => rfl, fun _ => rfl⟩ rfl rfl rfl (by decide) <| Runs.aloadN d1_86 rfl <| ?_
  refine Runs.bipush d1_87 cb_64 <| Runs.newArr (j' := 12) (top' := a + 1 + 12) (k' := 12) (n' := 408) d1_89 d1_91 fA_11 w33 rfl w12 (Or.inl w34) rfl (by decide) ⟨by decide, by decide⟩ ⟨fun _ => rfl, fun _ => rfl⟩ rfl rfl rfl (by decide) <| Runs.aloadN d1_94 rfl <| Runs.bipush d1_95 cb_32 <| Runs.newArr (j' := 13) (top' := a + 1 + 13) (k' := 13) (n' := 440) d1_97 d1_99 fA_12 w35 rfl w12 (Or.inl w36) rfl (by decide) ⟨by decide, by decide⟩ ⟨fun _ => rfl, fun _ => rfl⟩ rfl rfl rfl (by decide) <| Runs.aloadN d1_102 rfl <| Runs.bipush d1_103 cb_32 <| Runs.newArr (j' := 14) (top' := a + 1 + 14) (k' := 14) (n' := 472) d1_105 d1_107 fA_13 w37 rfl w9 (Or.inl w38) rfl (by decide) ⟨by decide, by decide⟩ ⟨fun _ => rfl, fun _ => rfl⟩ rfl rfl rfl (by decide) <| Runs.aloadN d1_110 rfl <| Runs.bipush d1_111 cb_32 <| Runs.newArr (j' := 15) (top' := a + 1 + 15) (k' := 15) (n' := 504) d1_113 d1_115 fA_14 w39 rfl w9 (Or.inl w40) rfl (by decide) ⟨by decide, by decide⟩ ⟨fun _ => rfl, fun _ => rfl⟩ rfl rfl rfl (by decide) <| Runs.aloadN d1_118 rfl <| ?_
  refine Runs.sipush d1_119 cs_128 <| Runs.newArr (j' := 16) (top' := a + 1 + 16) (k' := 16) (n' := 632) d1_122 d1_124 fA_15 w41 rfl w12 (Or.inl w42) rfl (by decide) ⟨by decide, by decide⟩ ⟨fun _ => rfl, fun _ => rfl⟩ rfl rfl rfl (by decide) <| Runs.aloadN d1_127 rfl <| Runs.bipush d1_128 cb_64 <| Runs.newArr (j' := 17) (top' := a + 1 + 17) (k' := 17) (n' := 696) d1_130 d1_132 fA_16 w43 rfl w9 (Or.inl w44) rfl (by decide) ⟨by decide, by decide⟩ ⟨fun _ => rfl, fun _ => rfl⟩ rfl rfl rfl (by decide) <| Runs.aloadN d1_135 rfl <| Runs.sipush d1_136 cs_256 <| Runs.newArr (j' := 18) (top' := a + 1 + 18) (k' := 18) (n' := 952) d1_139 d1_141 fA_17 w45 rfl w12 (Or.inl w46) rfl (by decide) ⟨by decide, by decide⟩ ⟨fun _ => rfl, fun _ => rfl⟩ rfl rfl rfl (by decide) <| Runs.aloadN d1_144 rfl <| Runs.aloadN d1_145 rfl <| Runs.iloadN d1_146 rfl <| Runs.iconst d1_147 ci_1 <| ?_
  refine Runs.iconst d1_148 ci_4 <| ?_
  refine bind_el hf fun r6 hg7 hf => ?_
  refine Runs.callP (N := B2) (W := 1) (as := [.int i1, .int (1 : Int32), .int (4 : Int32)]) (S' := [.ref a]) d1_149 w47 w48 w49 rfl cw2 ar2 rk1_2_1 (by decide) rfl rfl (X_clamp_pay hg7) <| ans1 <| Runs.putI d1_152 w51 fS_0 (Or.inl w52) <| Runs.aloadN d1_155 rfl <| Runs.aloadN d1_156 rfl <| Runs.iloadN d1_157 rfl <| Runs.iconst d1_158 ci_4 <| Runs.bipush d1_159 cb_16 <| ?_
  refine bind_el hf fun r8 hg9 hf => ?_
  refine Runs.callP (N := B2) (W := 1) (as := [.int i2, .int (4 : Int32), .int (16 : Int32)]) (S' := [.ref a]) d1_161 w47 w48 w49 rfl cw2 ar2 rk1_2_1 (by decide) rfl rfl (X_clamp_pay hg9) <| ans1 <| Runs.putI d1_164 w53 fS_1 (Or.inl w54) <| Runs.aloadN d1_167 rfl <| Runs.aloadN d1_168 rfl <| Runs.iloadN d1_169 rfl <| Runs.iconst d1_170 ci_4 <| Runs.bipush d1_171 cb_32 <| ?_
  refine bind_el hf fun r10 hg11 hf => ?_
  refine Runs.callP (N := B2) (W := 1) (as := [.int i3, .int (4 : Int32), .int (32 : Int32)]) (S' := [.ref a]) d1_173 w47 w48 w49 rfl cw2 ar2 rk1_2_1 (by decide) rfl rfl (X_clamp_pay hg11) <| ans1 <| Runs.putI d1_176 w55 fS_2 (Or.inl w56) <| Runs.aloadN d1_179 rfl <| Runs.aloadN d1_180 rfl <| Runs.iload d1_181 rfl <| Runs.iconst d1_183 ci_1 <| Runs.bipush d1_184 cb_16 <| ?_
  refine bind_el hf fun r12 hg13 hf => ?_
  refine Runs.callP (N := B2) (W := 1) (as := [.int i4, .int (1 : Int32), .int (16 : Int32)]) (S' := [.ref a]) d1_186 w47 w48 w49 rfl cw2 ar2 rk1_2_1 (by decide) rfl rfl (X_clamp_pay hg13) <| ans1 <| Runs.putI d1_189 w57 fS_3 (Or.inl w58) <| Runs.aloadN d1_192 rfl <| Runs.iconst d1_193 ci_0 <| Runs.putI d1_194 w59 fS_4 (Or.inl w60) <| Runs.aloadN d1_197 rfl <| Runs.iconst d1_198 ci_0 <| Runs.putI d1_199 w61 fS_5 (Or.inl w62) <| Runs.aloadN d1_202 rfl <| Runs.iconst d1_203 ci_0 <| Runs.putI d1_204 w63 fS_6 (Or.inl w64) <| Runs.aloadN d1_207 rfl <| ?_
  exact Runs.iconst d1_208 ci_0 <| Runs.putI d1_209 w65 fS_7 (Or.inl w66) <| Runs.iconst d1_212 ci_0 <| Runs.istore (P' := [vr a, vi i1, vi i2, vi i3, vi i4, vi (0 : Int32)]) d1_213 (by decide) rfl <| Runs.forget [true, false, false, false, false, true] rfl <| X_init_l215_p NF (sI (sI (sI (sI (sI (sI (sI (sI zrec 0 r6) 1 r8) 2 r10) 3 r12) 4 (0 : Int32)) 5 (0 : Int32)) 6 (0 : Int32)) 7 (0 : Int32)) (0 : Int32) hf
theorem X_init_pay {C : Ctx} {a : Nat} {H : List (Nat × Nat × Rec)} {res : Rec} {NF : Nat} {i1 : Int32} {i2 : Int32} {i3 : Int32} {i4 : Int32} (hf : X_init NF i1 i2 i3 i4 = some res) : Pays C B1 [.ref a, .int i1, .int i2, .int i3, .int i4] (a + 1, (a, 0, zrec) :: H) (Ans none (a + 1 + 18, (a, 18, res) :: H)) :=
  Pays.of pnK (Nat.le_of_ble_eq_true rfl) (P := [vr a, vi i1, vi i2, vi i3, vi i4, vn]) 1 rfl (X_init_p i1 i2 i3 i4 hf)
def X_validPid (ob : Rec) (i1 : Int32) : Option (Int32) :=
  if i1 < (0 : Int32) then
    some (0 : Int32)
  else
    if i1 < (gI ob 0) then
      some (1 : Int32)
    else
      some (0 : Int32)
set_option maxRecDepth 65536 in
set_option maxHeartbeats 4000000 in
theorem X_validPid_p {C : Ctx} {top : Nat} {a : Nat} {H : List (Nat × Nat × Rec)} {ob : Rec} {res : Int32} (i1 : Int32) (hf : X_validPid ob i1 = some res) : Runs C B4 0 0 0 [vr a, vi i1] [] (top, (a, 18, ob) :: H) (Ans (some (.int res)) (top, (a, 18, ob) :: H)) := by
  delta X_validPid at hf
  refine Runs.iloadN d4_0 rfl <| ?_
  refine ite_el hf (fun hc1 hf => ?_) (fun hc1 hf => ?_)
  · refine Runs.ifY (pc' := 16) d4_1 (tlt hc1).1 (by decide) <| ?_
    obtain rfl := Option.some.inj hf
    exact Runs.iconst d4_16 ci_0 <| Runs.retZ (y := (0 : Int32)) d4_17 rfl ⟨by decide, by decide⟩ rfl ⟨rfl, rfl⟩
  · refine Runs.ifN d4_1 (flt hc1).1 <| ?_
    refine Runs.iloadN d4_4 rfl <| Runs.aloadN d4_5 rfl <| Runs.getI d4_6 w51 fS_0 <| ?_
    refine ite_el hf (fun hc2 hf => ?_) (fun hc2 hf => ?_)
    · refine Runs.icN d4_9 (tlt hc2).2.1 <| ?_
      obtain rfl := Option.some.inj hf
      exact Runs.iconst d4_12 ci_1 <| Runs.goto (pc' := 17) d4_13 (by decide) <| Runs.retZ (y := (1 : Int32)) d4_17 rfl ⟨by decide, by decide⟩ rfl ⟨rfl, rfl⟩
    · refine Runs.icY (pc' := 16) d4_9 (flt hc2).2.1 (by decide) <| ?_
      obtain rfl := Option.some.inj hf
      exact Runs.iconst d4_16 ci_0 <| Runs.retZ (y := (0 : Int32)) d4_17 rfl ⟨by decide, by decide⟩ rfl ⟨rfl, rfl⟩
theorem X_validPid_pay {C : Ctx} {top : Nat} {a : Nat} {H : List (Nat × Nat × Rec)} {ob : Rec} {res : Int32} {i1 : Int32} (hf : X_validPid ob i1 = some res) : Pays C B4 [.ref a, .int i1] (top, (a, 18, ob) :: H) (Ans (some (.int res)) (top, (a, 18, ob) :: H)) :=
  Pays.of pnK (Nat.le_of_ble_eq_true rfl) (P := [vr a, vi i1]) 0 rfl (X_validPid_p i1 hf)
def X_isSuspended (ob : Rec) (i1 : Int32) : Option (Int32) :=
  (X_validPid ob i1).bind fun r1 =>
  if r1 = (0 : Int32) then
    some (0 : Int32)
  else
    chk (4 : Int32) i1 <|
    some ((gA ob 0 i1) &&& 1)
set_option maxRecDepth 65536 in
set_option maxHeartbeats 4000000 in
theorem X_isSuspended_p {C : Ctx} {top : Nat} {a : Nat} {H : List (Nat × Nat × Rec)} {ob : Rec} {res : Int32} (i1 : Int32) (hf : X_isSuspended ob i1 = some res) : Runs C B3 0 0 0 [vr a, vi i1] [] (top, (a, 18, ob) :: H) (Ans (some (.int res)) (top, (a, 18, ob) :: H)) := by
  delta X_isSuspended at hf
  refine Runs.aloadN d3_0 rfl <| Runs.iloadN d3_1 rfl <| ?_
  refine bind_el hf fun r1 hg2 hf => ?_
  refine Runs.callP (N := B4) (W := 0) (as := [.int i1]) (S' := []) d3_2 w73 w74 w75 rfl cw4 ar4 rk3_4_0 (by decide) rfl rfl (X_validPid_pay hg2) <| ans1 <| ?_
  refine ite_el hf (fun hc3 hf => ?_) (fun hc3 hf => ?_)
  · refine Runs.ifN d3_5 (teq hc3).2 <| ?_
    obtain rfl := Option.some.inj hf
    exact Runs.iconst d3_8 ci_0 <| Runs.retZ (y := (0 : Int32)) d3_9 rfl ⟨by decide, by decide⟩ rfl ⟨rfl, rfl⟩
  · refine Runs.ifY (pc' := 10) d3_5 (feq hc3).2 (by decide) <| ?_
    refine Runs.aloadN d3_10 rfl <| Runs.getA d3_11 fA_0 w10 (by decide) <| Runs.iloadN d3_14 rfl <| ?_
    refine chk_el hf fun hi4 hf => ?_
    obtain rfl := Option.some.inj hf
    exact Runs.baloadA d3_15 fA_0 (by decide) hi4 <| Runs.retZ (y := ((gA ob 0 i1) &&& 1)) d3_16 rfl ⟨by decide, by decide⟩ rfl ⟨rfl, rfl⟩
theorem X_isSuspended_pay {C : Ctx} {top : Nat} {a : Nat} {H : List (Nat × Nat × Rec)} {ob : Rec} {res : Int32} {i1 : Int32} (hf : X_isSuspended ob i1 = some res) : Pays C B3 [.ref a, .int i1] (top, (a, 18, ob) :: H) (Ans (some (.int res)) (top, (a, 18, ob) :: H)) :=
  Pays.of pnK (Nat.le_of_ble_eq_true rfl) (P := [vr a, vi i1]) 0 rfl (X_isSuspended_p i1 hf)
def X_discardPage_b64 (ob : Rec) (i1 : Int32) : Option (Rec) :=
  chk (64 : Int32) i1 <|
  chk (64 : Int32) i1 <|
  chk (64 : Int32) i1 <|
  some (sA (sA (sA ob 7 i1 (0 : Int32)) 8 i1 (0 : Int32)) 11 i1 (0 : Int32))
set_option maxRecDepth 65536 in
set_option maxHeartbeats 4000000 in
theorem X_discardPage_b64_p {C : Ctx} {top : Nat} {a : Nat} {H : List (Nat × Nat × Rec)} {res : Rec} (ob : Rec) (i1 : Int32) (hf : X_discardPage_b64 ob i1 = some res) : Runs C B27 0 0 64 [vr a, vi i1, vn, vn] [] (top, (a, 18, ob) :: H) (Ans none (top, (a, 18, res) :: H)) := by
  delta X_discardPage_b64 at hf
  refine Runs.aloadN d27_64 rfl <| Runs.getA d27_65 fA_7 w25 (by decide) <| Runs.iloadN d27_68 rfl <| Runs.iconst d27_69 ci_0 <| ?_
  refine chk_el hf fun hi5 hf => ?_
  refine Runs.iastoreA d27_70 fA_7 (by decide) hi5 <| Runs.aloadN d27_71 rfl <| Runs.getA d27_72 fA_8 w27 (by decide) <| Runs.iloadN d27_75 rfl <| Runs.iconst d27_76 ci_0 <| ?_
  refine chk_el hf fun hi6 hf => ?_
  refine Runs.bastoreA (y := (0 : Int32)) d27_77 fA_8 (by decide) hi6 rfl <| Runs.aloadN d27_78 rfl <| Runs.getA d27_79 fA_11 w33 (by decide) <| Runs.iloadN d27_82 rfl <| Runs.iconst d27_83 ci_0 <| ?_
  refine chk_el hf fun hi7 hf => ?_
  obtain rfl := Option.some.inj hf
  exact Runs.iastoreA d27_84 fA_11 (by decide) hi7 <| Runs.retV d27_85 rfl ⟨by decide, by decide⟩ ⟨rfl, rfl⟩
def X_discardPage_b39 (ob : Rec) (i1 : Int32) : Option (Rec) :=
  chk (64 : Int32) i1 <|
  if (gA ob 10 i1) < (0 : Int32) then
    X_discardPage_b64 ob i1
  else
    chk (64 : Int32) (gA ob 10 i1) <|
    chk (64 : Int32) i1 <|
    X_discardPage_b64 (sA (sA ob 16 (gA ob 10 i1) (0 : Int32)) 10 i1 (-1 : Int32)) i1
set_option maxRecDepth 65536 in
set_option maxHeartbeats 4000000 in
theorem X_discardPage_b39_p {C : Ctx} {top : Nat} {a : Nat} {H : List (Nat × Nat × Rec)} {res : Rec} (ob : Rec) (i1 : Int32) (hf : X_discardPage_b39 ob i1 = some res) : Runs C B27 0 0 39 [vr a, vi i1, vn, vn] [] (top, (a, 18, ob) :: H) (Ans none (top, (a, 18, res) :: H)) := by
  delta X_discardPage_b39 at hf
  refine Runs.aloadN d27_39 rfl <| Runs.getA d27_40 fA_10 w31 (by decide) <| Runs.iloadN d27_43 rfl <| ?_
  refine chk_el hf fun hi1 hf => ?_
  refine Runs.ialoadA d27_44 fA_10 (by decide) hi1 <| Runs.istoreN (P' := [vr a, vi i1, vn, vi (gA ob 10 i1)]) d27_45 (by decide) rfl <| Runs.iloadN d27_46 rfl <| ?_
  refine ite_el hf (fun hc2 hf => ?_) (fun hc2 hf => ?_)
  · exact Runs.ifY (pc' := 64) d27_47 (tlt hc2).1 (by decide) <| Runs.forget [true, true, false, false] rfl <| X_discardPage_b64_p ob i1 hf
  · refine Runs.ifN d27_47 (flt hc2).1 <| ?_
    refine Runs.aloadN d27_50 rfl <| Runs.getA d27_51 fA_16 w43 (by decide) <| Runs.iloadN d27_54 rfl <| Runs.iconst d27_55 ci_0 <| ?_
    refine chk_el hf fun hi3 hf => ?_
    refine Runs.bastoreA (y := (0 : Int32)) d27_56 fA_16 (by decide) hi3 rfl <| Runs.aloadN d27_57 rfl <| Runs.getA d27_58 fA_10 w31 (by decide) <| Runs.iloadN d27_61 rfl <| Runs.iconst d27_62 ci_m1 <| ?_
    refine chk_el hf fun hi4 hf => ?_
    exact Runs.iastoreA d27_63 fA_10 (by decide) hi4 <| Runs.forget [true, true, false, false] rfl <| X_discardPage_b64_p (sA (sA ob 16 (gA ob 10 i1) (0 : Int32)) 10 i1 (-1 : Int32)) i1 hf
def X_discardPage (ob : Rec) (i1 : Int32) : Option (Rec) :=
  chk (64 : Int32) i1 <|
  if (gA ob 9 i1) < (0 : Int32) then
    X_discardPage_b39 ob i1
  else
    chk (32 : Int32) (gA ob 9 i1) <|
    chk (32 : Int32) (gA ob 9 i1) <|
    chk (32 : Int32) (gA ob 9 i1) <|
    chk (64 : Int32) i1 <|
    X_discardPage_b39 (sA (sA (sA (sA ob 12 (gA ob 9 i1) (-1 : Int32)) 13 (gA ob 9 i1) (0 : Int32)) 14 (gA ob 9 i1) (0 : Int32)) 9 i1 (-1 : Int32)) i1
set_option maxRecDepth 65536 in
set_option maxHeartbeats 4000000 in
theorem X_discardPage_p {C : Ctx} {top : Nat} {a : Nat} {H : List (Nat × Nat × Rec)} {res : Rec} (ob : Rec) (i1 : Int32) (hf : X_discardPage ob i1 = some res) : Runs C B27 0 0 0 [vr a, vi i1, vn, vn] [] (top, (a, 18, ob) :: H) (Ans none (top, (a, 18, res) :: H)) := by
  delta X_discardPage at hf
  refine Runs.aloadN d27_0 rfl <| Runs.getA d27_1 fA_9 w29 (by decide) <| Runs.iloadN d27_4 rfl <| ?_
  refine chk_el hf fun hi8 hf => ?_
  refine Runs.ialoadA d27_5 fA_9 (by decide) hi8 <| Runs.istoreN (P' := [vr a, vi i1, vi (gA ob 9 i1), vn]) d27_6 (by decide) rfl <| Runs.iloadN d27_7 rfl <| ?_
  refine ite_el hf (fun hc9 hf => ?_) (fun hc9 hf => ?_)
  · exact Runs.ifY (pc' := 39) d27_8 (tlt hc9).1 (by decide) <| Runs.forget [true, true, false, false] rfl <| X_discardPage_b39_p ob i1 hf
  · refine Runs.ifN d27_8 (flt hc9).1 <| ?_
    refine Runs.aloadN d27_11 rfl <| Runs.getA d27_12 fA_12 w35 (by decide) <| Runs.iloadN d27_15 rfl <| Runs.iconst d27_16 ci_m1 <| ?_
    refine chk_el hf fun hi10 hf => ?_
    refine Runs.iastoreA d27_17 fA_12 (by decide) hi10 <| Runs.aloadN d27_18 rfl <| Runs.getA d27_19 fA_13 w37 (by decide) <| Runs.iloadN d27_22 rfl <| Runs.iconst d27_23 ci_0 <| ?_
    refine chk_el hf fun hi11 hf => ?_
    refine Runs.bastoreA (y := (0 : Int32)) d27_24 fA_13 (by decide) hi11 rfl <| Runs.aloadN d27_25 rfl <| Runs.getA d27_26 fA_14 w39 (by decide) <| Runs.iloadN d27_29 rfl <| Runs.iconst d27_30 ci_0 <| ?_
    refine chk_el hf fun hi12 hf => ?_
    refine Runs.bastoreA (y := (0 : Int32)) d27_31 fA_14 (by decide) hi12 rfl <| Runs.aloadN d27_32 rfl <| Runs.getA d27_33 fA_9 w29 (by decide) <| Runs.iloadN d27_36 rfl <| Runs.iconst d27_37 ci_m1 <| ?_
    refine chk_el hf fun hi13 hf => ?_
    exact Runs.iastoreA d27_38 fA_9 (by decide) hi13 <| Runs.forget [true, true, false, false] rfl <| X_discardPage_b39_p (sA (sA (sA (sA ob 12 (gA ob 9 i1) (-1 : Int32)) 13 (gA ob 9 i1) (0 : Int32)) 14 (gA ob 9 i1) (0 : Int32)) 9 i1 (-1 : Int32)) i1 hf
theorem X_discardPage_pay {C : Ctx} {top : Nat} {a : Nat} {H : List (Nat × Nat × Rec)} {res : Rec} {ob : Rec} {i1 : Int32} (hf : X_discardPage ob i1 = some res) : Pays C B27 [.ref a, .int i1] (top, (a, 18, ob) :: H) (Ans none (top, (a, 18, res) :: H)) :=
  Pays.of pnK (Nat.le_of_ble_eq_true rfl) (P := [vr a, vi i1, vn, vn]) 2 rfl (X_discardPage_p ob i1 hf)
def X_activeTotal_w4 (NF : Nat) (ob : Rec) (k4 : Int32 → Int32 → Option (Int32)) (i1 : Int32) (i2 : Int32) : Option (Int32) :=
  if i2 < (gI ob 0) then
    chk (4 : Int32) i2 <|
    if (gA ob 0 i2) = (0 : Int32) then
      chk (4 : Int32) i2 <|
      k4 (i1 + (gA ob 4 i2)) (i2 + (1 : Int32))
    else
      k4 i1 (i2 + (1 : Int32))
  else
    some i1
def X_activeTotal_l4 (NF : Nat) (ob : Rec) : Nat → Int32 → Int32 → Option (Int32)
  | 0, _, _ => none
  | n + 1, i1, i2 => X_activeTotal_w4 NF ob (X_activeTotal_l4 NF ob n) i1 i2
set_option maxRecDepth 65536 in
set_option maxHeartbeats 4000000 in
theorem X_activeTotal_w4_p {C : Ctx} {top : Nat} {a : Nat} {H : List (Nat × Nat × Rec)} {ob : Rec} {res : Int32} {NF : Nat} (k4 : Int32 → Int32 → Option (Int32)) (hk4 : ∀ (i1 : Int32) (i2 : Int32), k4 i1 i2 = some res → Runs C B14 0 0 4 [vr a, vi i1, vi i2] [] (top, (a, 18, ob) :: H) (Ans (some (.int res)) (top, (a, 18, ob) :: H))) (i1 : Int32) (i2 : Int32) (hf : X_activeTotal_w4 NF ob k4 i1 i2 = some res) : Runs C B14 0 0 4 [vr a, vi i1, vi i2] [] (top, (a, 18, ob) :: H) (Ans (some (.int res)) (top, (a, 18, ob) :: H)) := by
  delta X_activeTotal_w4 at hf
  refine Runs.iloadN d14_4 rfl <| Runs.aloadN d14_5 rfl <| Runs.getI d14_6 w51 fS_0 <| ?_
  refine ite_el hf (fun hc1 hf => ?_) (fun hc1 hf => ?_)
  · refine Runs.icN d14_9 (tlt hc1).2.1 <| ?_
    refine Runs.aloadN d14_12 rfl <| Runs.getA d14_13 fA_0 w10 (by decide) <| Runs.iloadN d14_16 rfl <| ?_
    refine chk_el hf fun hi2 hf => ?_
    refine Runs.baloadA d14_17 fA_0 (by decide) hi2 <| ?_
    refine ite_el hf (fun hc3 hf => ?_) (fun hc3 hf => ?_)
    · refine Runs.ifN d14_18 (teq hc3).2 <| ?_
      refine Runs.iloadN d14_21 rfl <| Runs.aloadN d14_22 rfl <| Runs.getA d14_23 fA_4 w19 (by decide) <| Runs.iloadN d14_26 rfl <| ?_
      refine chk_el hf fun hi4 hf => ?_
      exact Runs.ialoadA d14_27 fA_4 (by decide) hi4 <| Runs.iadd d14_28 <| Runs.istoreN (P' := [vr a, vi (i1 + (gA ob 4 i2)), vi i2]) d14_29 (by decide) rfl <| Runs.iinc (P' := [vr a, vi (i1 + (gA ob 4 i2)), vi (i2 + (1 : Int32))]) d14_30 ci_1 rfl (by decide) rfl <| Runs.goto (pc' := 4) d14_33 (by decide) <| hk4 (i1 + (gA ob 4 i2)) (i2 + (1 : Int32)) hf
    · refine Runs.ifY (pc' := 30) d14_18 (feq hc3).2 (by decide) <| ?_
      exact Runs.iinc (P' := [vr a, vi i1, vi (i2 + (1 : Int32))]) d14_30 ci_1 rfl (by decide) rfl <| Runs.goto (pc' := 4) d14_33 (by decide) <| hk4 i1 (i2 + (1 : Int32)) hf
  · refine Runs.icY (pc' := 36) d14_9 (flt hc1).2.1 (by decide) <| ?_
    obtain rfl := Option.some.inj hf
    exact Runs.iloadN d14_36 rfl <| Runs.retI d14_37 rfl ⟨by decide, by decide⟩ ⟨rfl, rfl⟩
theorem X_activeTotal_l4_p {C : Ctx} {top : Nat} {a : Nat} {H : List (Nat × Nat × Rec)} {ob : Rec} {res : Int32} {NF : Nat} (n : Nat) (i1 : Int32) (i2 : Int32) (hf : X_activeTotal_l4 NF ob n i1 i2 = some res) : Runs C B14 0 0 4 [vr a, vi i1, vi i2] [] (top, (a, 18, ob) :: H) (Ans (some (.int res)) (top, (a, 18, ob) :: H)) := by
  induction n generalizing i1 i2 with
  | zero => cases (show (none : Option (Int32)) = some res from hf)
  | succ n ih => exact X_activeTotal_w4_p (X_activeTotal_l4 NF ob n) (fun i1 i2 h => ih _ _ h) i1 i2 hf
def X_activeTotal (NF : Nat) (ob : Rec) : Option (Int32) :=
  X_activeTotal_l4 NF ob NF (0 : Int32) (0 : Int32)
set_option maxRecDepth 65536 in
set_option maxHeartbeats 4000000 in
theorem X_activeTotal_p {C : Ctx} {top : Nat} {a : Nat} {H : List (Nat × Nat × Rec)} {ob : Rec} {res : Int32} {NF : Nat} (hf : X_activeTotal NF ob = some res) : Runs C B14 0 0 0 [vr a, vn, vn] [] (top, (a, 18, ob) :: H) (Ans (some (.int res)) (top, (a, 18, ob) :: H)) := by
  delta X_activeTotal at hf
  exact Runs.iconst d14_0 ci_0 <| Runs.istoreN (P' := [vr a, vi (0 : Int32), vn]) d14_1 (by decide) rfl <| Runs.iconst d14_2 ci_0 <| Runs.istoreN (P' := [vr a, vi (0 : Int32), vi (0 : Int32)]) d14_3 (by decide) rfl <| X_activeTotal_l4_p NF (0 : Int32) (0 : Int32) hf
theorem X_activeTotal_pay {C : Ctx} {top : Nat} {a : Nat} {H : List (Nat × Nat × Rec)} {ob : Rec} {res : Int32} {NF : Nat} (hf : X_activeTotal NF ob = some res) : Pays C B14 [.ref a] (top, (a, 18, ob) :: H) (Ans (some (.int res)) (top, (a, 18, ob) :: H)) :=
  Pays.of pnK (Nat.le_of_ble_eq_true rfl) (P := [vr a, vn, vn]) 2 rfl (X_activeTotal_p hf)
def X_pickProcessToSuspend_w7 (NF : Nat) (ob : Rec) (k7 : Int32 → Int32 → Option (Int32)) (i1 : Int32) (i2 : Int32) : Option (Int32) :=
  if i2 < (0 : Int32) then
    some (-1 : Int32)
  else
    if i2 = i1 then
      k7 i1 (i2 + (-1 : Int32))
    else
      chk (4 : Int32) i2 <|
      if (gA ob 0 i2) = (0 : Int32) then
        chk (4 : Int32) i2 <|
        if (0 : Int32) < (gA ob 4 i2) then
          some i2
        else
          k7 i1 (i2 + (-1 : Int32))
      else
        k7 i1 (i2 + (-1 : Int32))
def X_pickProcessToSuspend_l7 (NF : Nat) (ob : Rec) : Nat → Int32 → Int32 → Option (Int32)
  | 0, _, _ => none
  | n + 1, i1, i2 => X_pickProcessToSuspend_w7 NF ob (X_pickProcessToSuspend_l7 NF ob n) i1 i2
set_option maxRecDepth 65536 in
set_option maxHeartbeats 4000000 in
theorem X_pickProcessToSuspend_w7_p {C : Ctx} {top : Nat} {a : Nat} {H : List (Nat × Nat × Rec)} {ob : Rec} {res : Int32} {NF : Nat} (k7 : Int32 → Int32 → Option (Int32)) (hk7 : ∀ (i1 : Int32) (i2 : Int32), k7 i1 i2 = some res → Runs C B30 0 0 7 [vr a, vi i1, vi i2] [] (top, (a, 18, ob) :: H) (Ans (some (.int res)) (top, (a, 18, ob) :: H))) (i1 : Int32) (i2 : Int32) (hf : X_pickProcessToSuspend_w7 NF ob k7 i1 i2 = some res) : Runs C B30 0 0 7 [vr a, vi i1, vi i2] [] (top, (a, 18, ob) :: H) (Ans (some (.int res)) (top, (a, 18, ob) :: H)) := by
  delta X_pickProcessToSuspend_w7 at hf
  refine Runs.iloadN d30_7 rfl <| ?_
  refine ite_el hf (fun hc1 hf => ?_) (fun hc1 hf => ?_)
  · refine Runs.ifY (pc' := 42) d30_8 (tlt hc1).1 (by decide) <| ?_
    obtain rfl := Option.some.inj hf
    exact Runs.iconst d30_42 ci_m1 <| Runs.retI d30_43 rfl ⟨by decide, by decide⟩ ⟨rfl, rfl⟩
  · refine Runs.ifN d30_8 (flt hc1).1 <| ?_
    refine Runs.iloadN d30_11 rfl <| Runs.iloadN d30_12 rfl <| ?_
    refine ite_el hf (fun hc2 hf => ?_) (fun hc2 hf => ?_)
    · refine Runs.icY (pc' := 36) d30_13 (teq hc2).1 (by decide) <| ?_
      exact Runs.iinc (P' := [vr a, vi i1, vi (i2 + (-1 : Int32))]) d30_36 ci_m1 rfl (by decide) rfl <| Runs.goto (pc' := 7) d30_39 (by decide) <| hk7 i1 (i2 + (-1 : Int32)) hf
    · refine Runs.icN d30_13 (feq hc2).1 <| ?_
      refine Runs.aloadN d30_16 rfl <| Runs.getA d30_17 fA_0 w10 (by decide) <| Runs.iloadN d30_20 rfl <| ?_
      refine chk_el hf fun hi3 hf => ?_
      refine Runs.baloadA d30_21 fA_0 (by decide) hi3 <| ?_
      refine ite_el hf (fun hc4 hf => ?_) (fun hc4 hf => ?_)
      · refine Runs.ifN d30_22 (teq hc4).2 <| ?_
        refine Runs.aloadN d30_25 rfl <| Runs.getA d30_26 fA_4 w19 (by decide) <| Runs.iloadN d30_29 rfl <| ?_
        refine chk_el hf fun hi5 hf => ?_
        refine Runs.ialoadA d30_30 fA_4 (by decide) hi5 <| ?_
        refine ite_el hf (fun hc6 hf => ?_) (fun hc6 hf => ?_)
        · refine Runs.ifN d30_31 (tlt hc6).2.2.2 <| ?_
          obtain rfl := Option.some.inj hf
          exact Runs.iloadN d30_34 rfl <| Runs.retI d30_35 rfl ⟨by decide, by decide⟩ ⟨rfl, rfl⟩
        · refine Runs.ifY (pc' := 36) d30_31 (flt hc6).2.2.2 (by decide) <| ?_
          exact Runs.iinc (P' := [vr a, vi i1, vi (i2 + (-1 : Int32))]) d30_36 ci_m1 rfl (by decide) rfl <| Runs.goto (pc' := 7) d30_39 (by decide) <| hk7 i1 (i2 + (-1 : Int32)) hf
      · refine Runs.ifY (pc' := 36) d30_22 (feq hc4).2 (by decide) <| ?_
        exact Runs.iinc (P' := [vr a, vi i1, vi (i2 + (-1 : Int32))]) d30_36 ci_m1 rfl (by decide) rfl <| Runs.goto (pc' := 7) d30_39 (by decide) <| hk7 i1 (i2 + (-1 : Int32)) hf
theorem X_pickProcessToSuspend_l7_p {C : Ctx} {top : Nat} {a : Nat} {H : List (Nat × Nat × Rec)} {ob : Rec} {res : Int32} {NF : Nat} (n : Nat) (i1 : Int32) (i2 : Int32) (hf : X_pickProcessToSuspend_l7 NF ob n i1 i2 = some res) : Runs C B30 0 0 7 [vr a, vi i1, vi i2] [] (top, (a, 18, ob) :: H) (Ans (some (.int res)) (top, (a, 18, ob) :: H)) := by
  induction n generalizing i1 i2 with
  | zero => cases (show (none : Option (Int32)) = some res from hf)
  | succ n ih => exact X_pickProcessToSuspend_w7_p (X_pickProcessToSuspend_l7 NF ob n) (fun i1 i2 h => ih _ _ h) i1 i2 hf
def X_pickProcessToSuspend (NF : Nat) (ob : Rec) (i1 : Int32) : Option (Int32) :=
  X_pickProcessToSuspend_l7 NF ob NF i1 ((gI ob 0) - (1 : Int32))
set_option maxRecDepth 65536 in
set_option maxHeartbeats 4000000 in
theorem X_pickProcessToSuspend_p {C : Ctx} {top : Nat} {a : Nat} {H : List (Nat × Nat × Rec)} {ob : Rec} {res : Int32} {NF : Nat} (i1 : Int32) (hf : X_pickProcessToSuspend NF ob i1 = some res) : Runs C B30 0 0 0 [vr a, vi i1, vn] [] (top, (a, 18, ob) :: H) (Ans (some (.int res)) (top, (a, 18, ob) :: H)) := by
  delta X_pickProcessToSuspend at hf
  exact Runs.aloadN d30_0 rfl <| Runs.getI d30_1 w51 fS_0 <| Runs.iconst d30_4 ci_1 <| Runs.isub d30_5 <| Runs.istoreN (P' := [vr a, vi i1, vi ((gI ob 0) - (1 : Int32))]) d30_6 (by decide) rfl <| X_pickProcessToSuspend_l7_p NF i1 ((gI ob 0) - (1 : Int32)) hf
theorem X_pickProcessToSuspend_pay {C : Ctx} {top : Nat} {a : Nat} {H : List (Nat × Nat × Rec)} {ob : Rec} {res : Int32} {NF : Nat} {i1 : Int32} (hf : X_pickProcessToSuspend NF ob i1 = some res) : Pays C B30 [.ref a, .int i1] (top, (a, 18, ob) :: H) (Ans (some (.int res)) (top, (a, 18, ob) :: H)) :=
  Pays.of pnK (Nat.le_of_ble_eq_true rfl) (P := [vr a, vi i1, vn]) 1 rfl (X_pickProcessToSuspend_p i1 hf)
def X_loadControl_w67 (NF : Nat) (k67 : Rec → Int32 → Option (Rec)) (ob : Rec) (i2 : Int32) : Option (Rec) :=
  if i2 < (gI ob 0) then
    chk (4 : Int32) i2 <|
    if (gA ob 0 i2) = (0 : Int32) then
      k67 ob (i2 + (1 : Int32))
    else
      (X_activeTotal NF ob).bind fun r12 =>
      chk (4 : Int32) i2 <|
      if (gI ob 2) < (r12 + (gA ob 4 i2)) then
        k67 ob (i2 + (1 : Int32))
      else
        chk (4 : Int32) i2 <|
        k67 (sI (sA ob 0 i2 (0 : Int32)) 6 ((gI ob 6) + (1 : Int32))) (i2 + (1 : Int32))
  else
    some ob
def X_loadControl_l67 (NF : Nat) : Nat → Rec → Int32 → Option (Rec)
  | 0, _, _ => none
  | n + 1, ob, i2 => X_loadControl_w67 NF (X_loadControl_l67 NF n) ob i2
set_option maxRecDepth 65536 in
set_option maxHeartbeats 4000000 in
theorem X_loadControl_w67_p {C : Ctx} {top : Nat} {a : Nat} {H : List (Nat × Nat × Rec)} {res : Rec} {NF : Nat} (k67 : Rec → Int32 → Option (Rec)) (hk67 : ∀ (ob : Rec) (i2 : Int32), k67 ob i2 = some res → Runs C B13 0 0 67 [vr a, vn, vi i2, vn, vn] [] (top, (a, 18, ob) :: H) (Ans none (top, (a, 18, res) :: H))) (ob : Rec) (i2 : Int32) (hf : X_loadControl_w67 NF k67 ob i2 = some res) : Runs C B13 0 0 67 [vr a, vn, vi i2, vn, vn] [] (top, (a, 18, ob) :: H) (Ans none (top, (a, 18, res) :: H)) := by
  delta X_loadControl_w67 at hf
  refine Runs.iloadN d13_67 rfl <| Runs.aloadN d13_68 rfl <| Runs.getI d13_69 w51 fS_0 <| ?_
  refine ite_el hf (fun hc9 hf => ?_) (fun hc9 hf => ?_)
  · refine Runs.icN d13_72 (tlt hc9).2.1 <| ?_
    refine Runs.aloadN d13_75 rfl <| Runs.getA d13_76 fA_0 w10 (by decide) <| Runs.iloadN d13_79 rfl <| ?_
    refine chk_el hf fun hi10 hf => ?_
    refine Runs.baloadA d13_80 fA_0 (by decide) hi10 <| ?_
    refine ite_el hf (fun hc11 hf => ?_) (fun hc11 hf => ?_)
    · refine Runs.ifY (pc' := 121) d13_81 (teq hc11).1 (by decide) <| ?_
      exact Runs.iinc (P' := [vr a, vn, vi (i2 + (1 : Int32)), vn, vn]) d13_121 ci_1 rfl (by decide) rfl <| Runs.goto (pc' := 67) d13_124 (by decide) <| hk67 ob (i2 + (1 : Int32)) hf
    · refine Runs.ifN d13_81 (feq hc11).1 <| ?_
      refine Runs.aloadN d13_84 rfl <| ?_
      refine bind_el hf fun r12 hg13 hf => ?_
      refine Runs.callV (N := B14) (W := 0) (as := []) (S' := []) d13_85 w114 w115 w116 w117 cw14 ar14 rk13_14_0 (by decide) rfl rfl (X_activeTotal_pay hg13) <| ans1 <| Runs.istoreN (P' := [vr a, vn, vi i2, vi r12, vn]) d13_88 (by decide) rfl <| Runs.iloadN d13_89 rfl <| Runs.aloadN d13_90 rfl <| Runs.getA d13_91 fA_4 w19 (by decide) <| Runs.iloadN d13_94 rfl <| ?_
      refine chk_el hf fun hi14 hf => ?_
      refine Runs.ialoadA d13_95 fA_4 (by decide) hi14 <| Runs.iadd d13_96 <| Runs.aloadN d13_97 rfl <| Runs.getI d13_98 w55 fS_2 <| ?_
      refine ite_el hf (fun hc15 hf => ?_) (fun hc15 hf => ?_)
      · refine Runs.icY (pc' := 121) d13_101 (tlt hc15).2.2.1 (by decide) <| ?_
        exact Runs.iinc (P' := [vr a, vn, vi (i2 + (1 : Int32)), vi r12, vn]) d13_121 ci_1 rfl (by decide) rfl <| Runs.goto (pc' := 67) d13_124 (by decide) <| Runs.forget [true, false, true, false, false] rfl <| hk67 ob (i2 + (1 : Int32)) hf
      · refine Runs.icN d13_101 (flt hc15).2.2.1 <| ?_
        refine Runs.aloadN d13_104 rfl <| Runs.getA d13_105 fA_0 w10 (by decide) <| Runs.iloadN d13_108 rfl <| Runs.iconst d13_109 ci_0 <| ?_
        refine chk_el hf fun hi16 hf => ?_
        exact Runs.bastoreA (y := (0 : Int32)) d13_110 fA_0 (by decide) hi16 rfl <| Runs.aloadN d13_111 rfl <| Runs.dup d13_112 rfl <| Runs.getI d13_113 w63 fS_6 <| Runs.iconst d13_116 ci_1 <| Runs.iadd d13_117 <| Runs.putI d13_118 w63 fS_6 (Or.inl w64) <| Runs.iinc (P' := [vr a, vn, vi (i2 + (1 : Int32)), vi r12, vn]) d13_121 ci_1 rfl (by decide) rfl <| Runs.goto (pc' := 67) d13_124 (by decide) <| Runs.forget [true, false, true, false, false] rfl <| hk67 (sI (sA ob 0 i2 (0 : Int32)) 6 ((gI ob 6) + (1 : Int32))) (i2 + (1 : Int32)) hf
  · refine Runs.icY (pc' := 127) d13_72 (flt hc9).2.1 (by decide) <| ?_
    obtain rfl := Option.some.inj hf
    exact Runs.retV d13_127 rfl ⟨by decide, by decide⟩ ⟨rfl, rfl⟩
theorem X_loadControl_l67_p {C : Ctx} {top : Nat} {a : Nat} {H : List (Nat × Nat × Rec)} {res : Rec} {NF : Nat} (n : Nat) (ob : Rec) (i2 : Int32) (hf : X_loadControl_l67 NF n ob i2 = some res) : Runs C B13 0 0 67 [vr a, vn, vi i2, vn, vn] [] (top, (a, 18, ob) :: H) (Ans none (top, (a, 18, res) :: H)) := by
  induction n generalizing ob i2 with
  | zero => cases (show (none : Option (Rec)) = some res from hf)
  | succ n ih => exact X_loadControl_w67_p (X_loadControl_l67 NF n) (fun ob i2 h => ih _ _ h) ob i2 hf
def X_loadControl_w2 (NF : Nat) (k2 : Rec → Int32 → Int32 → Option (Rec)) (ob : Rec) (i1 : Int32) (i2 : Int32) : Option (Rec) :=
  if i2 < (gI ob 0) then
    (X_activeTotal NF ob).bind fun r2 =>
    if (gI ob 2) < r2 then
      (X_pickProcessToSuspend NF ob i1).bind fun r5 =>
      if r5 < (0 : Int32) then
        X_loadControl_l67 NF NF ob (0 : Int32)
      else
        chk (4 : Int32) r5 <|
        k2 (sI (sA ob 0 r5 (1 : Int32)) 5 ((gI ob 5) + (1 : Int32))) i1 (i2 + (1 : Int32))
    else
      X_loadControl_l67 NF NF ob (0 : Int32)
  else
    X_loadControl_l67 NF NF ob (0 : Int32)
def X_loadControl_l2 (NF : Nat) : Nat → Rec → Int32 → Int32 → Option (Rec)
  | 0, _, _, _ => none
  | n + 1, ob, i1, i2 => X_loadControl_w2 NF (X_loadControl_l2 NF n) ob i1 i2
set_option maxRecDepth 65536 in
set_option maxHeartbeats 4000000 in
theorem X_loadControl_w2_p {C : Ctx} {top : Nat} {a : Nat} {H : List (Nat × Nat × Rec)} {res : Rec} {NF : Nat} (k2 : Rec → Int32 → Int32 → Option (Rec)) (hk2 : ∀ (ob : Rec) (i1 : Int32) (i2 : Int32), k2 ob i1 i2 = some res → Runs C B13 0 0 2 [vr a, vi i1, vi i2, vn, vn] [] (top, (a, 18, ob) :: H) (Ans none (top, (a, 18, res) :: H))) (ob : Rec) (i1 : Int32) (i2 : Int32) (hf : X_loadControl_w2 NF k2 ob i1 i2 = some res) : Runs C B13 0 0 2 [vr a, vi i1, vi i2, vn, vn] [] (top, (a, 18, ob) :: H) (Ans none (top, (a, 18, res) :: H)) := by
  delta X_loadControl_w2 at hf
  refine Runs.iloadN d13_2 rfl <| Runs.aloadN d13_3 rfl <| Runs.getI d13_4 w51 fS_0 <| ?_
  refine ite_el hf (fun hc1 hf => ?_) (fun hc1 hf => ?_)
  · refine Runs.icN d13_7 (tlt hc1).2.1 <| ?_
    refine Runs.aloadN d13_10 rfl <| ?_
    refine bind_el hf fun r2 hg3 hf => ?_
    refine Runs.callV (N := B14) (W := 0) (as := []) (S' := []) d13_11 w114 w115 w116 w117 cw14 ar14 rk13_14_0 (by decide) rfl rfl (X_activeTotal_pay hg3) <| ans1 <| Runs.istoreN (P' := [vr a, vi i1, vi i2, vi r2, vn]) d13_14 (by decide) rfl <| Runs.iloadN d13_15 rfl <| Runs.aloadN d13_16 rfl <| Runs.getI d13_17 w55 fS_2 <| ?_
    refine ite_el hf (fun hc4 hf => ?_) (fun hc4 hf => ?_)
    · refine Runs.icY (pc' := 26) d13_20 (tlt hc4).2.2.1 (by decide) <| ?_
      refine Runs.aloadN d13_26 rfl <| Runs.iloadN d13_27 rfl <| ?_
      refine bind_el hf fun r5 hg6 hf => ?_
      refine Runs.callP (N := B30) (W := 0) (as := [.int i1]) (S' := []) d13_28 w192 w193 w194 rfl cw30 ar30 rk13_30_0 (by decide) rfl rfl (X_pickProcessToSuspend_pay hg6) <| ans1 <| Runs.istore (P' := [vr a, vi i1, vi i2, vi r2, vi r5]) d13_31 (by decide) rfl <| Runs.iload d13_33 rfl <| ?_
      refine ite_el hf (fun hc7 hf => ?_) (fun hc7 hf => ?_)
      · refine Runs.ifN d13_35 (tlt hc7).2.1 <| ?_
        exact Runs.goto (pc' := 65) d13_38 (by decide) <| Runs.iconst d13_65 ci_0 <| Runs.istoreN (P' := [vr a, vi i1, vi (0 : Int32), vi r2, vi r5]) d13_66 (by decide) rfl <| Runs.forget [true, false, true, false, false] rfl <| X_loadControl_l67_p NF ob (0 : Int32) hf
      · refine Runs.ifY (pc' := 41) d13_35 (flt hc7).2.1 (by decide) <| ?_
        refine Runs.aloadN d13_41 rfl <| Runs.getA d13_42 fA_0 w10 (by decide) <| Runs.iload d13_45 rfl <| Runs.iconst d13_47 ci_1 <| ?_
        refine chk_el hf fun hi8 hf => ?_
        exact Runs.bastoreA (y := (1 : Int32)) d13_48 fA_0 (by decide) hi8 rfl <| Runs.aloadN d13_49 rfl <| Runs.dup d13_50 rfl <| Runs.getI d13_51 w61 fS_5 <| Runs.iconst d13_54 ci_1 <| Runs.iadd d13_55 <| Runs.putI d13_56 w61 fS_5 (Or.inl w62) <| Runs.iinc (P' := [vr a, vi i1, vi (i2 + (1 : Int32)), vi r2, vi r5]) d13_59 ci_1 rfl (by decide) rfl <| Runs.goto (pc' := 2) d13_62 (by decide) <| Runs.forget [true, true, true, false, false] rfl <| hk2 (sI (sA ob 0 r5 (1 : Int32)) 5 ((gI ob 5) + (1 : Int32))) i1 (i2 + (1 : Int32)) hf
    · refine Runs.icN d13_20 (flt hc4).2.2.1 <| ?_
      exact Runs.goto (pc' := 65) d13_23 (by decide) <| Runs.iconst d13_65 ci_0 <| Runs.istoreN (P' := [vr a, vi i1, vi (0 : Int32), vi r2, vn]) d13_66 (by decide) rfl <| Runs.forget [true, false, true, false, false] rfl <| X_loadControl_l67_p NF ob (0 : Int32) hf
  · refine Runs.icY (pc' := 65) d13_7 (flt hc1).2.1 (by decide) <| ?_
    exact Runs.iconst d13_65 ci_0 <| Runs.istoreN (P' := [vr a, vi i1, vi (0 : Int32), vn, vn]) d13_66 (by decide) rfl <| Runs.forget [true, false, true, false, false] rfl <| X_loadControl_l67_p NF ob (0 : Int32) hf
theorem X_loadControl_l2_p {C : Ctx} {top : Nat} {a : Nat} {H : List (Nat × Nat × Rec)} {res : Rec} {NF : Nat} (n : Nat) (ob : Rec) (i1 : Int32) (i2 : Int32) (hf : X_loadControl_l2 NF n ob i1 i2 = some res) : Runs C B13 0 0 2 [vr a, vi i1, vi i2, vn, vn] [] (top, (a, 18, ob) :: H) (Ans none (top, (a, 18, res) :: H)) := by
  induction n generalizing ob i1 i2 with
  | zero => cases (show (none : Option (Rec)) = some res from hf)
  | succ n ih => exact X_loadControl_w2_p (X_loadControl_l2 NF n) (fun ob i1 i2 h => ih _ _ _ h) ob i1 i2 hf
def X_loadControl (NF : Nat) (ob : Rec) (i1 : Int32) : Option (Rec) :=
  X_loadControl_l2 NF NF ob i1 (0 : Int32)
set_option maxRecDepth 65536 in
set_option maxHeartbeats 4000000 in
theorem X_loadControl_p {C : Ctx} {top : Nat} {a : Nat} {H : List (Nat × Nat × Rec)} {res : Rec} {NF : Nat} (ob : Rec) (i1 : Int32) (hf : X_loadControl NF ob i1 = some res) : Runs C B13 0 0 0 [vr a, vi i1, vn, vn, vn] [] (top, (a, 18, ob) :: H) (Ans none (top, (a, 18, res) :: H)) := by
  delta X_loadControl at hf
  exact Runs.iconst d13_0 ci_0 <| Runs.istoreN (P' := [vr a, vi i1, vi (0 : Int32), vn, vn]) d13_1 (by decide) rfl <| X_loadControl_l2_p NF ob i1 (0 : Int32) hf
theorem X_loadControl_pay {C : Ctx} {top : Nat} {a : Nat} {H : List (Nat × Nat × Rec)} {res : Rec} {NF : Nat} {ob : Rec} {i1 : Int32} (hf : X_loadControl NF ob i1 = some res) : Pays C B13 [.ref a, .int i1] (top, (a, 18, ob) :: H) (Ans none (top, (a, 18, res) :: H)) :=
  Pays.of pnK (Nat.le_of_ble_eq_true rfl) (P := [vr a, vi i1, vn, vn, vn]) 3 rfl (X_loadControl_p ob i1 hf)
def X_release_w17 (NF : Nat) (k17 : Rec → Int32 → Int32 → Option (Int32 × Rec)) (ob : Rec) (i1 : Int32) (i2 : Int32) : Option (Int32 × Rec) :=
  if i2 < (gI ob 1) then
    (X_discardPage ob ((i1 * (16 : Int32)) + i2)).bind fun q2 =>
    k17 q2 i1 (i2 + (1 : Int32))
  else
    chk (4 : Int32) i1 <|
    chk (4 : Int32) i1 <|
    chk (4 : Int32) i1 <|
    chk (4 : Int32) i1 <|
    chk (4 : Int32) i1 <|
    chk (4 : Int32) i1 <|
    (X_loadControl NF (sA (sA (sA (sA (sA (sA ob 1 i1 (0 : Int32)) 2 i1 (0 : Int32)) 3 i1 (0 : Int32)) 4 i1 (0 : Int32)) 5 i1 (0 : Int32)) 0 i1 (0 : Int32)) i1).bind fun q10 =>
    some ((0 : Int32), (sI q10 4 (0 : Int32)))
def X_release_l17 (NF : Nat) : Nat → Rec → Int32 → Int32 → Option (Int32 × Rec)
  | 0, _, _, _ => none
  | n + 1, ob, i1, i2 => X_release_w17 NF (X_release_l17 NF n) ob i1 i2
set_option maxRecDepth 65536 in
set_option maxHeartbeats 4000000 in
theorem X_release_w17_p {C : Ctx} {top : Nat} {a : Nat} {H : List (Nat × Nat × Rec)} {res : Int32 × Rec} {NF : Nat} (k17 : Rec → Int32 → Int32 → Option (Int32 × Rec)) (hk17 : ∀ (ob : Rec) (i1 : Int32) (i2 : Int32), k17 ob i1 i2 = some res → Runs C B26 0 0 17 [vr a, vi i1, vi i2] [] (top, (a, 18, ob) :: H) (Ans (some (.int res.1)) (top, (a, 18, res.2) :: H))) (ob : Rec) (i1 : Int32) (i2 : Int32) (hf : X_release_w17 NF k17 ob i1 i2 = some res) : Runs C B26 0 0 17 [vr a, vi i1, vi i2] [] (top, (a, 18, ob) :: H) (Ans (some (.int res.1)) (top, (a, 18, res.2) :: H)) := by
  delta X_release_w17 at hf
  refine Runs.iloadN d26_17 rfl <| Runs.aloadN d26_18 rfl <| Runs.getI d26_19 w53 fS_1 <| ?_
  refine ite_el hf (fun hc1 hf => ?_) (fun hc1 hf => ?_)
  · refine Runs.icN d26_22 (tlt hc1).2.1 <| ?_
    refine Runs.aloadN d26_25 rfl <| Runs.iloadN d26_26 rfl <| Runs.bipush d26_27 cb_16 <| Runs.imul d26_29 <| Runs.iloadN d26_30 rfl <| Runs.iadd d26_31 <| ?_
    refine bind_el hf fun q2 hg3 hf => ?_
    exact Runs.callP (N := B27) (W := 0) (as := [.int ((i1 * (16 : Int32)) + i2)]) (S' := []) d26_32 w180 w181 w182 rfl cw27 ar27 rk26_27_0 (by decide) rfl rfl (X_discardPage_pay hg3) <| ans0 <| Runs.iinc (P' := [vr a, vi i1, vi (i2 + (1 : Int32))]) d26_35 ci_1 rfl (by decide) rfl <| Runs.goto (pc' := 17) d26_38 (by decide) <| hk17 q2 i1 (i2 + (1 : Int32)) hf
  · refine Runs.icY (pc' := 41) d26_22 (flt hc1).2.1 (by decide) <| ?_
    refine Runs.aloadN d26_41 rfl <| Runs.getA d26_42 fA_1 w13 (by decide) <| Runs.iloadN d26_45 rfl <| Runs.iconst d26_46 ci_0 <| ?_
    refine chk_el hf fun hi4 hf => ?_
    refine Runs.iastoreA d26_47 fA_1 (by decide) hi4 <| Runs.aloadN d26_48 rfl <| Runs.getA d26_49 fA_2 w15 (by decide) <| Runs.iloadN d26_52 rfl <| Runs.iconst d26_53 ci_0 <| ?_
    refine chk_el hf fun hi5 hf => ?_
    refine Runs.iastoreA d26_54 fA_2 (by decide) hi5 <| Runs.aloadN d26_55 rfl <| Runs.getA d26_56 fA_3 w17 (by decide) <| Runs.iloadN d26_59 rfl <| Runs.iconst d26_60 ci_0 <| ?_
    refine chk_el hf fun hi6 hf => ?_
    refine Runs.iastoreA d26_61 fA_3 (by decide) hi6 <| Runs.aloadN d26_62 rfl <| Runs.getA d26_63 fA_4 w19 (by decide) <| Runs.iloadN d26_66 rfl <| Runs.iconst d26_67 ci_0 <| ?_
    refine chk_el hf fun hi7 hf => ?_
    refine Runs.iastoreA d26_68 fA_4 (by decide) hi7 <| Runs.aloadN d26_69 rfl <| Runs.getA d26_70 fA_5 w21 (by decide) <| Runs.iloadN d26_73 rfl <| Runs.iconst d26_74 ci_0 <| ?_
    refine chk_el hf fun hi8 hf => ?_
    refine Runs.iastoreA d26_75 fA_5 (by decide) hi8 <| Runs.aloadN d26_76 rfl <| Runs.getA d26_77 fA_0 w10 (by decide) <| Runs.iloadN d26_80 rfl <| Runs.iconst d26_81 ci_0 <| ?_
    refine chk_el hf fun hi9 hf => ?_
    refine Runs.bastoreA (y := (0 : Int32)) d26_82 fA_0 (by decide) hi9 rfl <| Runs.aloadN d26_83 rfl <| Runs.iloadN d26_84 rfl <| ?_
    refine bind_el hf fun q10 hg11 hf => ?_
    obtain rfl := Option.some.inj hf
    exact Runs.callP (N := B13) (W := 0) (as := [.int i1]) (S' := []) d26_85 w110 w111 w112 rfl cw13 ar13 rk26_13_0 (by decide) rfl rfl (X_loadControl_pay hg11) <| ans0 <| Runs.aloadN d26_88 rfl <| Runs.iconst d26_89 ci_0 <| Runs.putI d26_90 w59 fS_4 (Or.inl w60) <| Runs.iconst d26_93 ci_0 <| Runs.retI d26_94 rfl ⟨by decide, by decide⟩ ⟨rfl, rfl⟩
theorem X_release_l17_p {C : Ctx} {top : Nat} {a : Nat} {H : List (Nat × Nat × Rec)} {res : Int32 × Rec} {NF : Nat} (n : Nat) (ob : Rec) (i1 : Int32) (i2 : Int32) (hf : X_release_l17 NF n ob i1 i2 = some res) : Runs C B26 0 0 17 [vr a, vi i1, vi i2] [] (top, (a, 18, ob) :: H) (Ans (some (.int res.1)) (top, (a, 18, res.2) :: H)) := by
  induction n generalizing ob i1 i2 with
  | zero => cases (show (none : Option (Int32 × Rec)) = some res from hf)
  | succ n ih => exact X_release_w17_p (X_release_l17 NF n) (fun ob i1 i2 h => ih _ _ _ h) ob i1 i2 hf
def X_release (NF : Nat) (ob : Rec) (i1 : Int32) : Option (Int32 × Rec) :=
  (X_validPid ob i1).bind fun r12 =>
  if r12 = (0 : Int32) then
    some ((1 : Int32), (sI ob 4 (1 : Int32)))
  else
    X_release_l17 NF NF ob i1 (0 : Int32)
set_option maxRecDepth 65536 in
set_option maxHeartbeats 4000000 in
theorem X_release_p {C : Ctx} {top : Nat} {a : Nat} {H : List (Nat × Nat × Rec)} {res : Int32 × Rec} {NF : Nat} (ob : Rec) (i1 : Int32) (hf : X_release NF ob i1 = some res) : Runs C B26 0 0 0 [vr a, vi i1, vn] [] (top, (a, 18, ob) :: H) (Ans (some (.int res.1)) (top, (a, 18, res.2) :: H)) := by
  delta X_release at hf
  refine Runs.aloadN d26_0 rfl <| Runs.iloadN d26_1 rfl <| ?_
  refine bind_el hf fun r12 hg13 hf => ?_
  refine Runs.callP (N := B4) (W := 0) (as := [.int i1]) (S' := []) d26_2 w73 w74 w75 rfl cw4 ar4 rk26_4_0 (by decide) rfl rfl (X_validPid_pay hg13) <| ans1 <| ?_
  refine ite_el hf (fun hc14 hf => ?_) (fun hc14 hf => ?_)
  · refine Runs.ifN d26_5 (teq hc14).2 <| ?_
    obtain rfl := Option.some.inj hf
    exact Runs.aloadN d26_8 rfl <| Runs.iconst d26_9 ci_1 <| Runs.putI d26_10 w59 fS_4 (Or.inl w60) <| Runs.iconst d26_13 ci_1 <| Runs.retI d26_14 rfl ⟨by decide, by decide⟩ ⟨rfl, rfl⟩
  · refine Runs.ifY (pc' := 15) d26_5 (feq hc14).2 (by decide) <| ?_
    exact Runs.iconst d26_15 ci_0 <| Runs.istoreN (P' := [vr a, vi i1, vi (0 : Int32)]) d26_16 (by decide) rfl <| X_release_l17_p NF ob i1 (0 : Int32) hf
theorem X_release_pay {C : Ctx} {top : Nat} {a : Nat} {H : List (Nat × Nat × Rec)} {res : Int32 × Rec} {NF : Nat} {ob : Rec} {i1 : Int32} (hf : X_release NF ob i1 = some res) : Pays C B26 [.ref a, .int i1] (top, (a, 18, ob) :: H) (Ans (some (.int res.1)) (top, (a, 18, res.2) :: H)) :=
  Pays.of pnK (Nat.le_of_ble_eq_true rfl) (P := [vr a, vi i1, vn]) 1 rfl (X_release_p ob i1 hf)
def X_check (ob : Rec) (i1 : Int32) (i2 : Int32) : Option (Int32) :=
  (X_validPid ob i1).bind fun r1 =>
  if r1 = (0 : Int32) then
    some (1 : Int32)
  else
    if i2 < (0 : Int32) then
      some (2 : Int32)
    else
      if i2 < ((gI ob 1) * (4 : Int32)) then
        chk (4 : Int32) i1 <|
        if (gA ob 0 i1) = (0 : Int32) then
          some (0 : Int32)
        else
          some (3 : Int32)
      else
        some (2 : Int32)
set_option maxRecDepth 65536 in
set_option maxHeartbeats 4000000 in
theorem X_check_p {C : Ctx} {top : Nat} {a : Nat} {H : List (Nat × Nat × Rec)} {ob : Rec} {res : Int32} (i1 : Int32) (i2 : Int32) (hf : X_check ob i1 i2 = some res) : Runs C B7 0 0 0 [vr a, vi i1, vi i2] [] (top, (a, 18, ob) :: H) (Ans (some (.int res)) (top, (a, 18, ob) :: H)) := by
  delta X_check at hf
  refine Runs.aloadN d7_0 rfl <| Runs.iloadN d7_1 rfl <| ?_
  refine bind_el hf fun r1 hg2 hf => ?_
  refine Runs.callP (N := B4) (W := 0) (as := [.int i1]) (S' := []) d7_2 w73 w74 w75 rfl cw4 ar4 rk7_4_0 (by decide) rfl rfl (X_validPid_pay hg2) <| ans1 <| ?_
  refine ite_el hf (fun hc3 hf => ?_) (fun hc3 hf => ?_)
  · refine Runs.ifN d7_5 (teq hc3).2 <| ?_
    obtain rfl := Option.some.inj hf
    exact Runs.iconst d7_8 ci_1 <| Runs.retI d7_9 rfl ⟨by decide, by decide⟩ ⟨rfl, rfl⟩
  · refine Runs.ifY (pc' := 10) d7_5 (feq hc3).2 (by decide) <| ?_
    refine Runs.iloadN d7_10 rfl <| ?_
    refine ite_el hf (fun hc4 hf => ?_) (fun hc4 hf => ?_)
    · refine Runs.ifY (pc' := 24) d7_11 (tlt hc4).1 (by decide) <| ?_
      obtain rfl := Option.some.inj hf
      exact Runs.iconst d7_24 ci_2 <| Runs.retI d7_25 rfl ⟨by decide, by decide⟩ ⟨rfl, rfl⟩
    · refine Runs.ifN d7_11 (flt hc4).1 <| ?_
      refine Runs.iloadN d7_14 rfl <| Runs.aloadN d7_15 rfl <| Runs.getI d7_16 w53 fS_1 <| Runs.iconst d7_19 ci_4 <| Runs.imul d7_20 <| ?_
      refine ite_el hf (fun hc5 hf => ?_) (fun hc5 hf => ?_)
      · refine Runs.icY (pc' := 26) d7_21 (tlt hc5).1 (by decide) <| ?_
        refine Runs.aloadN d7_26 rfl <| Runs.getA d7_27 fA_0 w10 (by decide) <| Runs.iloadN d7_30 rfl <| ?_
        refine chk_el hf fun hi6 hf => ?_
        refine Runs.baloadA d7_31 fA_0 (by decide) hi6 <| ?_
        refine ite_el hf (fun hc7 hf => ?_) (fun hc7 hf => ?_)
        · refine Runs.ifY (pc' := 37) d7_32 (teq hc7).1 (by decide) <| ?_
          obtain rfl := Option.some.inj hf
          exact Runs.iconst d7_37 ci_0 <| Runs.retI d7_38 rfl ⟨by decide, by decide⟩ ⟨rfl, rfl⟩
        · refine Runs.ifN d7_32 (feq hc7).1 <| ?_
          obtain rfl := Option.some.inj hf
          exact Runs.iconst d7_35 ci_3 <| Runs.retI d7_36 rfl ⟨by decide, by decide⟩ ⟨rfl, rfl⟩
      · refine Runs.icN d7_21 (flt hc5).1 <| ?_
        obtain rfl := Option.some.inj hf
        exact Runs.iconst d7_24 ci_2 <| Runs.retI d7_25 rfl ⟨by decide, by decide⟩ ⟨rfl, rfl⟩
theorem X_check_pay {C : Ctx} {top : Nat} {a : Nat} {H : List (Nat × Nat × Rec)} {ob : Rec} {res : Int32} {i1 : Int32} {i2 : Int32} (hf : X_check ob i1 i2 = some res) : Pays C B7 [.ref a, .int i1, .int i2] (top, (a, 18, ob) :: H) (Ans (some (.int res)) (top, (a, 18, ob) :: H)) :=
  Pays.of pnK (Nat.le_of_ble_eq_true rfl) (P := [vr a, vi i1, vi i2]) 0 rfl (X_check_p i1 i2 hf)
def X_findFreeFrame_w2 (NF : Nat) (ob : Rec) (k2 : Int32 → Option (Int32)) (i1 : Int32) : Option (Int32) :=
  if i1 < (gI ob 2) then
    chk (32 : Int32) i1 <|
    if (gA ob 12 i1) < (0 : Int32) then
      some i1
    else
      k2 (i1 + (1 : Int32))
  else
    some (-1 : Int32)
def X_findFreeFrame_l2 (NF : Nat) (ob : Rec) : Nat → Int32 → Option (Int32)
  | 0, _ => none
  | n + 1, i1 => X_findFreeFrame_w2 NF ob (X_findFreeFrame_l2 NF ob n) i1
set_option maxRecDepth 65536 in
set_option maxHeartbeats 4000000 in
theorem X_findFreeFrame_w2_p {C : Ctx} {top : Nat} {a : Nat} {H : List (Nat × Nat × Rec)} {ob : Rec} {res : Int32} {NF : Nat} (k2 : Int32 → Option (Int32)) (hk2 : ∀ (i1 : Int32), k2 i1 = some res → Runs C B9 0 0 2 [vr a, vi i1] [] (top, (a, 18, ob) :: H) (Ans (some (.int res)) (top, (a, 18, ob) :: H))) (i1 : Int32) (hf : X_findFreeFrame_w2 NF ob k2 i1 = some res) : Runs C B9 0 0 2 [vr a, vi i1] [] (top, (a, 18, ob) :: H) (Ans (some (.int res)) (top, (a, 18, ob) :: H)) := by
  delta X_findFreeFrame_w2 at hf
  refine Runs.iloadN d9_2 rfl <| Runs.aloadN d9_3 rfl <| Runs.getI d9_4 w55 fS_2 <| ?_
  refine ite_el hf (fun hc1 hf => ?_) (fun hc1 hf => ?_)
  · refine Runs.icN d9_7 (tlt hc1).2.1 <| ?_
    refine Runs.aloadN d9_10 rfl <| Runs.getA d9_11 fA_12 w35 (by decide) <| Runs.iloadN d9_14 rfl <| ?_
    refine chk_el hf fun hi2 hf => ?_
    refine Runs.ialoadA d9_15 fA_12 (by decide) hi2 <| ?_
    refine ite_el hf (fun hc3 hf => ?_) (fun hc3 hf => ?_)
    · refine Runs.ifN d9_16 (tlt hc3).2.1 <| ?_
      obtain rfl := Option.some.inj hf
      exact Runs.iloadN d9_19 rfl <| Runs.retI d9_20 rfl ⟨by decide, by decide⟩ ⟨rfl, rfl⟩
    · refine Runs.ifY (pc' := 21) d9_16 (flt hc3).2.1 (by decide) <| ?_
      exact Runs.iinc (P' := [vr a, vi (i1 + (1 : Int32))]) d9_21 ci_1 rfl (by decide) rfl <| Runs.goto (pc' := 2) d9_24 (by decide) <| hk2 (i1 + (1 : Int32)) hf
  · refine Runs.icY (pc' := 27) d9_7 (flt hc1).2.1 (by decide) <| ?_
    obtain rfl := Option.some.inj hf
    exact Runs.iconst d9_27 ci_m1 <| Runs.retI d9_28 rfl ⟨by decide, by decide⟩ ⟨rfl, rfl⟩
theorem X_findFreeFrame_l2_p {C : Ctx} {top : Nat} {a : Nat} {H : List (Nat × Nat × Rec)} {ob : Rec} {res : Int32} {NF : Nat} (n : Nat) (i1 : Int32) (hf : X_findFreeFrame_l2 NF ob n i1 = some res) : Runs C B9 0 0 2 [vr a, vi i1] [] (top, (a, 18, ob) :: H) (Ans (some (.int res)) (top, (a, 18, ob) :: H)) := by
  induction n generalizing i1 with
  | zero => cases (show (none : Option (Int32)) = some res from hf)
  | succ n ih => exact X_findFreeFrame_w2_p (X_findFreeFrame_l2 NF ob n) (fun i1 h => ih _ h) i1 hf
def X_findFreeFrame (NF : Nat) (ob : Rec) : Option (Int32) :=
  X_findFreeFrame_l2 NF ob NF (0 : Int32)
set_option maxRecDepth 65536 in
set_option maxHeartbeats 4000000 in
theorem X_findFreeFrame_p {C : Ctx} {top : Nat} {a : Nat} {H : List (Nat × Nat × Rec)} {ob : Rec} {res : Int32} {NF : Nat} (hf : X_findFreeFrame NF ob = some res) : Runs C B9 0 0 0 [vr a, vn] [] (top, (a, 18, ob) :: H) (Ans (some (.int res)) (top, (a, 18, ob) :: H)) := by
  delta X_findFreeFrame at hf
  exact Runs.iconst d9_0 ci_0 <| Runs.istoreN (P' := [vr a, vi (0 : Int32)]) d9_1 (by decide) rfl <| X_findFreeFrame_l2_p NF (0 : Int32) hf
theorem X_findFreeFrame_pay {C : Ctx} {top : Nat} {a : Nat} {H : List (Nat × Nat × Rec)} {ob : Rec} {res : Int32} {NF : Nat} (hf : X_findFreeFrame NF ob = some res) : Pays C B9 [.ref a] (top, (a, 18, ob) :: H) (Ans (some (.int res)) (top, (a, 18, ob) :: H)) :=
  Pays.of pnK (Nat.le_of_ble_eq_true rfl) (P := [vr a, vn]) 1 rfl (X_findFreeFrame_p hf)
def X_allocSlot_w12 (NF : Nat) (ob : Rec) (k12 : Int32 → Int32 → Option (Int32)) (i1 : Int32) (i2 : Int32) : Option (Int32) :=
  if i2 < i1 then
    chk (64 : Int32) i2 <|
    if (gA ob 16 i2) = (0 : Int32) then
      some i2
    else
      k12 i1 (i2 + (1 : Int32))
  else
    some (-1 : Int32)
def X_allocSlot_l12 (NF : Nat) (ob : Rec) : Nat → Int32 → Int32 → Option (Int32)
  | 0, _, _ => none
  | n + 1, i1, i2 => X_allocSlot_w12 NF ob (X_allocSlot_l12 NF ob n) i1 i2
set_option maxRecDepth 65536 in
set_option maxHeartbeats 4000000 in
theorem X_allocSlot_w12_p {C : Ctx} {top : Nat} {a : Nat} {H : List (Nat × Nat × Rec)} {ob : Rec} {res : Int32} {NF : Nat} (k12 : Int32 → Int32 → Option (Int32)) (hk12 : ∀ (i1 : Int32) (i2 : Int32), k12 i1 i2 = some res → Runs C B32 0 0 12 [vr a, vi i1, vi i2] [] (top, (a, 18, ob) :: H) (Ans (some (.int res)) (top, (a, 18, ob) :: H))) (i1 : Int32) (i2 : Int32) (hf : X_allocSlot_w12 NF ob k12 i1 i2 = some res) : Runs C B32 0 0 12 [vr a, vi i1, vi i2] [] (top, (a, 18, ob) :: H) (Ans (some (.int res)) (top, (a, 18, ob) :: H)) := by
  delta X_allocSlot_w12 at hf
  refine Runs.iloadN d32_12 rfl <| Runs.iloadN d32_13 rfl <| ?_
  refine ite_el hf (fun hc1 hf => ?_) (fun hc1 hf => ?_)
  · refine Runs.icN d32_14 (tlt hc1).2.1 <| ?_
    refine Runs.aloadN d32_17 rfl <| Runs.getA d32_18 fA_16 w43 (by decide) <| Runs.iloadN d32_21 rfl <| ?_
    refine chk_el hf fun hi2 hf => ?_
    refine Runs.baloadA d32_22 fA_16 (by decide) hi2 <| ?_
    refine ite_el hf (fun hc3 hf => ?_) (fun hc3 hf => ?_)
    · refine Runs.ifN d32_23 (teq hc3).2 <| ?_
      obtain rfl := Option.some.inj hf
      exact Runs.iloadN d32_26 rfl <| Runs.retI d32_27 rfl ⟨by decide, by decide⟩ ⟨rfl, rfl⟩
    · refine Runs.ifY (pc' := 28) d32_23 (feq hc3).2 (by decide) <| ?_
      exact Runs.iinc (P' := [vr a, vi i1, vi (i2 + (1 : Int32))]) d32_28 ci_1 rfl (by decide) rfl <| Runs.goto (pc' := 12) d32_31 (by decide) <| hk12 i1 (i2 + (1 : Int32)) hf
  · refine Runs.icY (pc' := 34) d32_14 (flt hc1).2.1 (by decide) <| ?_
    obtain rfl := Option.some.inj hf
    exact Runs.iconst d32_34 ci_m1 <| Runs.retI d32_35 rfl ⟨by decide, by decide⟩ ⟨rfl, rfl⟩
theorem X_allocSlot_l12_p {C : Ctx} {top : Nat} {a : Nat} {H : List (Nat × Nat × Rec)} {ob : Rec} {res : Int32} {NF : Nat} (n : Nat) (i1 : Int32) (i2 : Int32) (hf : X_allocSlot_l12 NF ob n i1 i2 = some res) : Runs C B32 0 0 12 [vr a, vi i1, vi i2] [] (top, (a, 18, ob) :: H) (Ans (some (.int res)) (top, (a, 18, ob) :: H)) := by
  induction n generalizing i1 i2 with
  | zero => cases (show (none : Option (Int32)) = some res from hf)
  | succ n ih => exact X_allocSlot_w12_p (X_allocSlot_l12 NF ob n) (fun i1 i2 h => ih _ _ h) i1 i2 hf
def X_allocSlot (NF : Nat) (ob : Rec) : Option (Int32) :=
  X_allocSlot_l12 NF ob NF ((gI ob 0) * (gI ob 1)) (0 : Int32)
set_option maxRecDepth 65536 in
set_option maxHeartbeats 4000000 in
theorem X_allocSlot_p {C : Ctx} {top : Nat} {a : Nat} {H : List (Nat × Nat × Rec)} {ob : Rec} {res : Int32} {NF : Nat} (hf : X_allocSlot NF ob = some res) : Runs C B32 0 0 0 [vr a, vn, vn] [] (top, (a, 18, ob) :: H) (Ans (some (.int res)) (top, (a, 18, ob) :: H)) := by
  delta X_allocSlot at hf
  exact Runs.aloadN d32_0 rfl <| Runs.getI d32_1 w51 fS_0 <| Runs.aloadN d32_4 rfl <| Runs.getI d32_5 w53 fS_1 <| Runs.imul d32_8 <| Runs.istoreN (P' := [vr a, vi ((gI ob 0) * (gI ob 1)), vn]) d32_9 (by decide) rfl <| Runs.iconst d32_10 ci_0 <| Runs.istoreN (P' := [vr a, vi ((gI ob 0) * (gI ob 1)), vi (0 : Int32)]) d32_11 (by decide) rfl <| X_allocSlot_l12_p NF ((gI ob 0) * (gI ob 1)) (0 : Int32) hf
theorem X_allocSlot_pay {C : Ctx} {top : Nat} {a : Nat} {H : List (Nat × Nat × Rec)} {ob : Rec} {res : Int32} {NF : Nat} (hf : X_allocSlot NF ob = some res) : Pays C B32 [.ref a] (top, (a, 18, ob) :: H) (Ans (some (.int res)) (top, (a, 18, ob) :: H)) :=
  Pays.of pnK (Nat.le_of_ble_eq_true rfl) (P := [vr a, vn, vn]) 2 rfl (X_allocSlot_p hf)
def X_writeBack_w50 (NF : Nat) (k50 : Rec → Int32 → Int32 → Int32 → Option (Rec)) (ob : Rec) (i1 : Int32) (i3 : Int32) (i4 : Int32) : Option (Rec) :=
  if i4 < (4 : Int32) then
    chk (128 : Int32) ((i1 * (4 : Int32)) + i4) <|
    chk (256 : Int32) ((i3 * (4 : Int32)) + i4) <|
    k50 (sA ob 17 ((i3 * (4 : Int32)) + i4) (gA ob 15 ((i1 * (4 : Int32)) + i4))) i1 i3 (i4 + (1 : Int32))
  else
    chk (32 : Int32) i1 <|
    some (sA ob 14 i1 (0 : Int32))
def X_writeBack_l50 (NF : Nat) : Nat → Rec → Int32 → Int32 → Int32 → Option (Rec)
  | 0, _, _, _, _ => none
  | n + 1, ob, i1, i3, i4 => X_writeBack_w50 NF (X_writeBack_l50 NF n) ob i1 i3 i4
set_option maxRecDepth 65536 in
set_option maxHeartbeats 4000000 in
theorem X_writeBack_w50_p {C : Ctx} {top : Nat} {a : Nat} {H : List (Nat × Nat × Rec)} {res : Rec} {NF : Nat} (k50 : Rec → Int32 → Int32 → Int32 → Option (Rec)) (hk50 : ∀ (ob : Rec) (i1 : Int32) (i3 : Int32) (i4 : Int32), k50 ob i1 i3 i4 = some res → Runs C B31 0 0 50 [vr a, vi i1, vn, vi i3, vi i4] [] (top, (a, 18, ob) :: H) (Ans none (top, (a, 18, res) :: H))) (ob : Rec) (i1 : Int32) (i3 : Int32) (i4 : Int32) (hf : X_writeBack_w50 NF k50 ob i1 i3 i4 = some res) : Runs C B31 0 0 50 [vr a, vi i1, vn, vi i3, vi i4] [] (top, (a, 18, ob) :: H) (Ans none (top, (a, 18, res) :: H)) := by
  delta X_writeBack_w50 at hf
  refine Runs.iload d31_50 rfl <| Runs.iconst d31_52 ci_4 <| ?_
  refine ite_el hf (fun hc1 hf => ?_) (fun hc1 hf => ?_)
  · refine Runs.icN d31_53 (tlt hc1).2.1 <| ?_
    refine Runs.aloadN d31_56 rfl <| Runs.getA d31_57 fA_17 w45 (by decide) <| Runs.iloadN d31_60 rfl <| Runs.iconst d31_61 ci_4 <| Runs.imul d31_62 <| Runs.iload d31_63 rfl <| Runs.iadd d31_65 <| Runs.aloadN d31_66 rfl <| Runs.getA d31_67 fA_15 w41 (by decide) <| Runs.iloadN d31_70 rfl <| Runs.iconst d31_71 ci_4 <| Runs.imul d31_72 <| ?_
    refine Runs.iload d31_73 rfl <| Runs.iadd d31_75 <| ?_
    refine chk_el hf fun hi2 hf => ?_
    refine Runs.ialoadA d31_76 fA_15 (by decide) hi2 <| ?_
    refine chk_el hf fun hi3 hf => ?_
    exact Runs.iastoreA d31_77 fA_17 (by decide) hi3 <| Runs.iinc (P' := [vr a, vi i1, vn, vi i3, vi (i4 + (1 : Int32))]) d31_78 ci_1 rfl (by decide) rfl <| Runs.goto (pc' := 50) d31_81 (by decide) <| hk50 (sA ob 17 ((i3 * (4 : Int32)) + i4) (gA ob 15 ((i1 * (4 : Int32)) + i4))) i1 i3 (i4 + (1 : Int32)) hf
  · refine Runs.icY (pc' := 84) d31_53 (flt hc1).2.1 (by decide) <| ?_
    refine Runs.aloadN d31_84 rfl <| Runs.getA d31_85 fA_14 w39 (by decide) <| Runs.iloadN d31_88 rfl <| Runs.iconst d31_89 ci_0 <| ?_
    refine chk_el hf fun hi4 hf => ?_
    obtain rfl := Option.some.inj hf
    exact Runs.bastoreA (y := (0 : Int32)) d31_90 fA_14 (by decide) hi4 rfl <| Runs.retV d31_91 rfl ⟨by decide, by decide⟩ ⟨rfl, rfl⟩
theorem X_writeBack_l50_p {C : Ctx} {top : Nat} {a : Nat} {H : List (Nat × Nat × Rec)} {res : Rec} {NF : Nat} (n : Nat) (ob : Rec) (i1 : Int32) (i3 : Int32) (i4 : Int32) (hf : X_writeBack_l50 NF n ob i1 i3 i4 = some res) : Runs C B31 0 0 50 [vr a, vi i1, vn, vi i3, vi i4] [] (top, (a, 18, ob) :: H) (Ans none (top, (a, 18, res) :: H)) := by
  induction n generalizing ob i1 i3 i4 with
  | zero => cases (show (none : Option (Rec)) = some res from hf)
  | succ n ih => exact X_writeBack_w50_p (X_writeBack_l50 NF n) (fun ob i1 i3 i4 h => ih _ _ _ _ h) ob i1 i3 i4 hf
def X_writeBack (NF : Nat) (ob : Rec) (i1 : Int32) : Option (Rec) :=
  chk (32 : Int32) i1 <|
  if (gA ob 12 i1) < (0 : Int32) then
    some ob
  else
    chk (64 : Int32) (gA ob 12 i1) <|
    if (gA ob 10 (gA ob 12 i1)) < (0 : Int32) then
      (X_allocSlot NF ob).bind fun r9 =>
      if r9 < (0 : Int32) then
        some ob
      else
        chk (64 : Int32) r9 <|
        chk (64 : Int32) (gA ob 12 i1) <|
        X_writeBack_l50 NF NF (sA (sA ob 16 r9 (1 : Int32)) 10 (gA ob 12 i1) r9) i1 r9 (0 : Int32)
    else
      X_writeBack_l50 NF NF ob i1 (gA ob 10 (gA ob 12 i1)) (0 : Int32)
set_option maxRecDepth 65536 in
set_option maxHeartbeats 4000000 in
theorem X_writeBack_p {C : Ctx} {top : Nat} {a : Nat} {H : List (Nat × Nat × Rec)} {res : Rec} {NF : Nat} (ob : Rec) (i1 : Int32) (hf : X_writeBack NF ob i1 = some res) : Runs C B31 0 0 0 [vr a, vi i1, vn, vn, vn] [] (top, (a, 18, ob) :: H) (Ans none (top, (a, 18, res) :: H)) := by
  delta X_writeBack at hf
  refine Runs.aloadN d31_0 rfl <| Runs.getA d31_1 fA_12 w35 (by decide) <| Runs.iloadN d31_4 rfl <| ?_
  refine chk_el hf fun hi5 hf => ?_
  refine Runs.ialoadA d31_5 fA_12 (by decide) hi5 <| Runs.istoreN (P' := [vr a, vi i1, vi (gA ob 12 i1), vn, vn]) d31_6 (by decide) rfl <| Runs.iloadN d31_7 rfl <| ?_
  refine ite_el hf (fun hc6 hf => ?_) (fun hc6 hf => ?_)
  · refine Runs.ifN d31_8 (tlt hc6).2.1 <| ?_
    obtain rfl := Option.some.inj hf
    exact Runs.retV d31_11 rfl ⟨by decide, by decide⟩ ⟨rfl, rfl⟩
  · refine Runs.ifY (pc' := 12) d31_8 (flt hc6).2.1 (by decide) <| ?_
    refine Runs.aloadN d31_12 rfl <| Runs.getA d31_13 fA_10 w31 (by decide) <| Runs.iloadN d31_16 rfl <| ?_
    refine chk_el hf fun hi7 hf => ?_
    refine Runs.ialoadA d31_17 fA_10 (by decide) hi7 <| Runs.istoreN (P' := [vr a, vi i1, vi (gA ob 12 i1), vi (gA ob 10 (gA ob 12 i1)), vn]) d31_18 (by decide) rfl <| Runs.iloadN d31_19 rfl <| ?_
    refine ite_el hf (fun hc8 hf => ?_) (fun hc8 hf => ?_)
    · refine Runs.ifN d31_20 (tlt hc8).2.1 <| ?_
      refine Runs.aloadN d31_23 rfl <| ?_
      refine bind_el hf fun r9 hg10 hf => ?_
      refine Runs.callP (N := B32) (W := 0) (as := []) (S' := []) d31_24 w200 w201 w202 rfl cw32 ar32 rk31_32_0 (by decide) rfl rfl (X_allocSlot_pay hg10) <| ans1 <| Runs.istoreN (P' := [vr a, vi i1, vi (gA ob 12 i1), vi r9, vn]) d31_27 (by decide) rfl <| Runs.iloadN d31_28 rfl <| ?_
      refine ite_el hf (fun hc11 hf => ?_) (fun hc11 hf => ?_)
      · refine Runs.ifN d31_29 (tlt hc11).2.1 <| ?_
        obtain rfl := Option.some.inj hf
        exact Runs.retV d31_32 rfl ⟨by decide, by decide⟩ ⟨rfl, rfl⟩
      · refine Runs.ifY (pc' := 33) d31_29 (flt hc11).2.1 (by decide) <| ?_
        refine Runs.aloadN d31_33 rfl <| Runs.getA d31_34 fA_16 w43 (by decide) <| Runs.iloadN d31_37 rfl <| Runs.iconst d31_38 ci_1 <| ?_
        refine chk_el hf fun hi12 hf => ?_
        refine Runs.bastoreA (y := (1 : Int32)) d31_39 fA_16 (by decide) hi12 rfl <| Runs.aloadN d31_40 rfl <| Runs.getA d31_41 fA_10 w31 (by decide) <| Runs.iloadN d31_44 rfl <| Runs.iloadN d31_45 rfl <| ?_
        refine chk_el hf fun hi13 hf => ?_
        exact Runs.iastoreA d31_46 fA_10 (by decide) hi13 <| Runs.iconst d31_47 ci_0 <| Runs.istore (P' := [vr a, vi i1, vi (gA ob 12 i1), vi r9, vi (0 : Int32)]) d31_48 (by decide) rfl <| Runs.forget [true, true, false, true, true] rfl <| X_writeBack_l50_p NF (sA (sA ob 16 r9 (1 : Int32)) 10 (gA ob 12 i1) r9) i1 r9 (0 : Int32) hf
    · refine Runs.ifY (pc' := 47) d31_20 (flt hc8).2.1 (by decide) <| ?_
      exact Runs.iconst d31_47 ci_0 <| Runs.istore (P' := [vr a, vi i1, vi (gA ob 12 i1), vi (gA ob 10 (gA ob 12 i1)), vi (0 : Int32)]) d31_48 (by decide) rfl <| Runs.forget [true, true, false, true, true] rfl <| X_writeBack_l50_p NF ob i1 (gA ob 10 (gA ob 12 i1)) (0 : Int32) hf
theorem X_writeBack_pay {C : Ctx} {top : Nat} {a : Nat} {H : List (Nat × Nat × Rec)} {res : Rec} {NF : Nat} {ob : Rec} {i1 : Int32} (hf : X_writeBack NF ob i1 = some res) : Pays C B31 [.ref a, .int i1] (top, (a, 18, ob) :: H) (Ans none (top, (a, 18, res) :: H)) :=
  Pays.of pnK (Nat.le_of_ble_eq_true rfl) (P := [vr a, vi i1, vn, vn, vn]) 3 rfl (X_writeBack_p ob i1 hf)
def X_chooseVictim_b126 (NF : Nat) (k4 : Rec → Int32 → Int32 → Option (Int32 × Rec)) (ob : Rec) (i1 : Int32) (i2 : Int32) (i3 : Int32) (t0 : Int32) : Option (Int32 × Rec) :=
  if t0 = (0 : Int32) then
    if i1 < (0 : Int32) then
      chk (32 : Int32) i3 <|
      if (gA ob 14 i3) = (0 : Int32) then
        k4 ob i3 (i2 + (1 : Int32))
      else
        k4 ob i1 (i2 + (1 : Int32))
    else
      k4 ob i1 (i2 + (1 : Int32))
  else
    chk (32 : Int32) i3 <|
    if (gA ob 14 i3) = (0 : Int32) then
      some (i3, ob)
    else
      (X_writeBack NF ob i3).bind fun q23 =>
      k4 q23 i1 (i2 + (1 : Int32))
set_option maxRecDepth 65536 in
set_option maxHeartbeats 4000000 in
theorem X_chooseVictim_b126_p {C : Ctx} {top : Nat} {a : Nat} {H : List (Nat × Nat × Rec)} {res : Int32 × Rec} {NF : Nat} (k4 : Rec → Int32 → Int32 → Option (Int32 × Rec)) (hk4 : ∀ (ob : Rec) (i1 : Int32) (i2 : Int32), k4 ob i1 i2 = some res → Runs C B28 0 0 4 [vr a, vi i1, vi i2, vn, vn, vn, vn] [] (top, (a, 18, ob) :: H) (Ans (some (.int res.1)) (top, (a, 18, res.2) :: H))) (ob : Rec) (i1 : Int32) (i2 : Int32) (i3 : Int32) (t0 : Int32) (hf : X_chooseVictim_b126 NF k4 ob i1 i2 i3 t0 = some res) : Runs C B28 0 0 126 [vr a, vi i1, vi i2, vi i3, vn, vn, vn] [.int t0] (top, (a, 18, ob) :: H) (Ans (some (.int res.1)) (top, (a, 18, res.2) :: H)) := by
  delta X_chooseVictim_b126 at hf
  refine Runs.istore (P' := [vr a, vi i1, vi i2, vi i3, vn, vn, vi t0]) d28_126 (by decide) rfl <| Runs.iload d28_128 rfl <| ?_
  refine ite_el hf (fun hc17 hf => ?_) (fun hc17 hf => ?_)
  · refine Runs.ifN d28_130 (teq hc17).2 <| ?_
    refine Runs.iloadN d28_133 rfl <| ?_
    refine ite_el hf (fun hc18 hf => ?_) (fun hc18 hf => ?_)
    · refine Runs.ifN d28_134 (tlt hc18).2.1 <| ?_
      refine Runs.aloadN d28_137 rfl <| Runs.getA d28_138 fA_14 w39 (by decide) <| Runs.iloadN d28_141 rfl <| ?_
      refine chk_el hf fun hi19 hf => ?_
      refine Runs.baloadA d28_142 fA_14 (by decide) hi19 <| ?_
      refine ite_el hf (fun hc20 hf => ?_) (fun hc20 hf => ?_)
      · refine Runs.ifN d28_143 (teq hc20).2 <| ?_
        exact Runs.iloadN d28_146 rfl <| Runs.istoreN (P' := [vr a, vi i3, vi i2, vi i3, vn, vn, vi t0]) d28_147 (by decide) rfl <| Runs.goto (pc' := 167) d28_148 (by decide) <| Runs.iinc (P' := [vr a, vi i3, vi (i2 + (1 : Int32)), vi i3, vn, vn, vi t0]) d28_167 ci_1 rfl (by decide) rfl <| Runs.goto (pc' := 4) d28_170 (by decide) <| Runs.forget [true, true, true, false, false, false, false] rfl <| hk4 ob i3 (i2 + (1 : Int32)) hf
      · refine Runs.ifY (pc' := 167) d28_143 (feq hc20).2 (by decide) <| ?_
        exact Runs.iinc (P' := [vr a, vi i1, vi (i2 + (1 : Int32)), vi i3, vn, vn, vi t0]) d28_167 ci_1 rfl (by decide) rfl <| Runs.goto (pc' := 4) d28_170 (by decide) <| Runs.forget [true, true, true, false, false, false, false] rfl <| hk4 ob i1 (i2 + (1 : Int32)) hf
    · refine Runs.ifY (pc' := 167) d28_134 (flt hc18).2.1 (by decide) <| ?_
      exact Runs.iinc (P' := [vr a, vi i1, vi (i2 + (1 : Int32)), vi i3, vn, vn, vi t0]) d28_167 ci_1 rfl (by decide) rfl <| Runs.goto (pc' := 4) d28_170 (by decide) <| Runs.forget [true, true, true, false, false, false, false] rfl <| hk4 ob i1 (i2 + (1 : Int32)) hf
  · refine Runs.ifY (pc' := 151) d28_130 (feq hc17).2 (by decide) <| ?_
    refine Runs.aloadN d28_151 rfl <| Runs.getA d28_152 fA_14 w39 (by decide) <| Runs.iloadN d28_155 rfl <| ?_
    refine chk_el hf fun hi21 hf => ?_
    refine Runs.baloadA d28_156 fA_14 (by decide) hi21 <| ?_
    refine ite_el hf (fun hc22 hf => ?_) (fun hc22 hf => ?_)
    · refine Runs.ifN d28_157 (teq hc22).2 <| ?_
      obtain rfl := Option.some.inj hf
      exact Runs.iloadN d28_160 rfl <| Runs.retI d28_161 rfl ⟨by decide, by decide⟩ ⟨rfl, rfl⟩
    · refine Runs.ifY (pc' := 162) d28_157 (feq hc22).2 (by decide) <| ?_
      refine Runs.aloadN d28_162 rfl <| Runs.iloadN d28_163 rfl <| ?_
      refine bind_el hf fun q23 hg24 hf => ?_
      exact Runs.callP (N := B31) (W := 0) (as := [.int i3]) (S' := []) d28_164 w196 w197 w198 rfl cw31 ar31 rk28_31_0 (by decide) rfl rfl (X_writeBack_pay hg24) <| ans0 <| Runs.iinc (P' := [vr a, vi i1, vi (i2 + (1 : Int32)), vi i3, vn, vn, vi t0]) d28_167 ci_1 rfl (by decide) rfl <| Runs.goto (pc' := 4) d28_170 (by decide) <| Runs.forget [true, true, true, false, false, false, false] rfl <| hk4 q23 i1 (i2 + (1 : Int32)) hf
def X_chooseVictim_w4 (NF : Nat) (k4 : Rec → Int32 → Int32 → Option (Int32 × Rec)) (ob : Rec) (i1 : Int32) (i2 : Int32) : Option (Int32 × Rec) :=
  if i2 < ((2 : Int32) * (gI ob 2)) then
    dvz (gI ob 2) <|
    chk (32 : Int32) (gI ob 7) <|
    if (gA ob 12 (gI ob 7)) < (0 : Int32) then
      some ((gI ob 7), (sI ob 7 (((gI ob 7) + (1 : Int32)) % (gI ob 2))))
    else
      chk (32 : Int32) (gI ob 7) <|
      if (gA ob 13 (gI ob 7)) = (0 : Int32) then
        chk (4 : Int32) ((gA ob 12 (gI ob 7)) / (16 : Int32)) <|
        if (gA ob 0 ((gA ob 12 (gI ob 7)) / (16 : Int32))) = (0 : Int32) then
          chk (4 : Int32) ((gA ob 12 (gI ob 7)) / (16 : Int32)) <|
          chk (64 : Int32) (gA ob 12 (gI ob 7)) <|
          if ((gA ob 1 ((gA ob 12 (gI ob 7)) / (16 : Int32))) - (gA ob 11 (gA ob 12 (gI ob 7)))) < (gI ob 3) then
            X_chooseVictim_b126 NF k4 (sI ob 7 (((gI ob 7) + (1 : Int32)) % (gI ob 2))) i1 i2 (gI ob 7) (0 : Int32)
          else
            X_chooseVictim_b126 NF k4 (sI ob 7 (((gI ob 7) + (1 : Int32)) % (gI ob 2))) i1 i2 (gI ob 7) (1 : Int32)
        else
          X_chooseVictim_b126 NF k4 (sI ob 7 (((gI ob 7) + (1 : Int32)) % (gI ob 2))) i1 i2 (gI ob 7) (1 : Int32)
      else
        chk (32 : Int32) (gI ob 7) <|
        chk (4 : Int32) ((gA ob 12 (gI ob 7)) / (16 : Int32)) <|
        chk (64 : Int32) (gA ob 12 (gI ob 7)) <|
        k4 (sA (sA (sI ob 7 (((gI ob 7) + (1 : Int32)) % (gI ob 2))) 13 (gI ob 7) (0 : Int32)) 11 (gA ob 12 (gI ob 7)) (gA ob 1 ((gA ob 12 (gI ob 7)) / (16 : Int32)))) i1 (i2 + (1 : Int32))
  else
    if i1 < (0 : Int32) then
      dvz (gI ob 2) <|
      some ((gI ob 7), (sI ob 7 (((gI ob 7) + (1 : Int32)) % (gI ob 2))))
    else
      some (i1, ob)
def X_chooseVictim_l4 (NF : Nat) : Nat → Rec → Int32 → Int32 → Option (Int32 × Rec)
  | 0, _, _, _ => none
  | n + 1, ob, i1, i2 => X_chooseVictim_w4 NF (X_chooseVictim_l4 NF n) ob i1 i2
set_option maxRecDepth 65536 in
set_option maxHeartbeats 4000000 in
theorem X_chooseVictim_w4_p {C : Ctx} {top : Nat} {a : Nat} {H : List (Nat × Nat × Rec)} {res : Int32 × Rec} {NF : Nat} (k4 : Rec → Int32 → Int32 → Option (Int32 × Rec)) (hk4 : ∀ (ob : Rec) (i1 : Int32) (i2 : Int32), k4 ob i1 i2 = some res → Runs C B28 0 0 4 [vr a, vi i1, vi i2, vn, vn, vn, vn] [] (top, (a, 18, ob) :: H) (Ans (some (.int res.1)) (top, (a, 18, res.2) :: H))) (ob : Rec) (i1 : Int32) (i2 : Int32) (hf : X_chooseVictim_w4 NF k4 ob i1 i2 = some res) : Runs C B28 0 0 4 [vr a, vi i1, vi i2, vn, vn, vn, vn] [] (top, (a, 18, ob) :: H) (Ans (some (.int res.1)) (top, (a, 18, res.2) :: H)) := by
  delta X_chooseVictim_w4 at hf
  refine Runs.iloadN d28_4 rfl <| Runs.iconst d28_5 ci_2 <| Runs.aloadN d28_6 rfl <| Runs.getI d28_7 w55 fS_2 <| Runs.imul d28_10 <| ?_
  refine ite_el hf (fun hc1 hf => ?_) (fun hc1 hf => ?_)
  · refine Runs.icN d28_11 (tlt hc1).2.1 <| ?_
    refine Runs.aloadN d28_14 rfl <| Runs.getI d28_15 w65 fS_7 <| Runs.istoreN (P' := [vr a, vi i1, vi i2, vi (gI ob 7), vn, vn, vn]) d28_18 (by decide) rfl <| Runs.aloadN d28_19 rfl <| Runs.aloadN d28_20 rfl <| Runs.getI d28_21 w65 fS_7 <| Runs.iconst d28_24 ci_1 <| Runs.iadd d28_25 <| Runs.aloadN d28_26 rfl <| Runs.getI d28_27 w55 fS_2 <| ?_
    refine dvz_el hf fun hz2 hf => ?_
    refine Runs.irem d28_30 hz2 <| Runs.putI d28_31 w65 fS_7 (Or.inl w66) <| Runs.aloadN d28_34 rfl <| Runs.getA d28_35 fA_12 w35 (by decide) <| Runs.iloadN d28_38 rfl <| ?_
    refine chk_el hf fun hi3 hf => ?_
    refine Runs.ialoadA d28_39 fA_12 (by decide) hi3 <| Runs.istore (P' := [vr a, vi i1, vi i2, vi (gI ob 7), vi (gA ob 12 (gI ob 7)), vn, vn]) d28_40 (by decide) rfl <| Runs.iload d28_42 rfl <| ?_
    refine ite_el hf (fun hc4 hf => ?_) (fun hc4 hf => ?_)
    · refine Runs.ifN d28_44 (tlt hc4).2.1 <| ?_
      obtain rfl := Option.some.inj hf
      exact Runs.iloadN d28_47 rfl <| Runs.retI d28_48 rfl ⟨by decide, by decide⟩ ⟨rfl, rfl⟩
    · refine Runs.ifY (pc' := 49) d28_44 (flt hc4).2.1 (by decide) <| ?_
      refine Runs.iload d28_49 rfl <| Runs.bipush d28_51 cb_16 <| Runs.idiv d28_53 (by decide) <| Runs.istore (P' := [vr a, vi i1, vi i2, vi (gI ob 7), vi (gA ob 12 (gI ob 7)), vi ((gA ob 12 (gI ob 7)) / (16 : Int32)), vn]) d28_54 (by decide) rfl <| Runs.aloadN d28_56 rfl <| Runs.getA d28_57 fA_13 w37 (by decide) <| Runs.iloadN d28_60 rfl <| ?_
      refine chk_el hf fun hi5 hf => ?_
      refine Runs.baloadA d28_61 fA_13 (by decide) hi5 <| ?_
      refine ite_el hf (fun hc6 hf => ?_) (fun hc6 hf => ?_)
      · refine Runs.ifY (pc' := 89) d28_62 (teq hc6).1 (by decide) <| ?_
        refine Runs.aloadN d28_89 rfl <| Runs.getA d28_90 fA_0 w10 (by decide) <| Runs.iload d28_93 rfl <| ?_
        refine chk_el hf fun hi7 hf => ?_
        refine Runs.baloadA d28_95 fA_0 (by decide) hi7 <| ?_
        refine ite_el hf (fun hc8 hf => ?_) (fun hc8 hf => ?_)
        · refine Runs.ifN d28_96 (teq hc8).2 <| ?_
          refine Runs.aloadN d28_99 rfl <| Runs.getA d28_100 fA_1 w13 (by decide) <| Runs.iload d28_103 rfl <| ?_
          refine chk_el hf fun hi9 hf => ?_
          refine Runs.ialoadA d28_105 fA_1 (by decide) hi9 <| Runs.aloadN d28_106 rfl <| Runs.getA d28_107 fA_11 w33 (by decide) <| Runs.iload d28_110 rfl <| ?_
          refine chk_el hf fun hi10 hf => ?_
          refine Runs.ialoadA d28_112 fA_11 (by decide) hi10 <| Runs.isub d28_113 <| Runs.aloadN d28_114 rfl <| Runs.getI d28_115 w57 fS_3 <| ?_
          refine ite_el hf (fun hc11 hf => ?_) (fun hc11 hf => ?_)
          · refine Runs.icY (pc' := 125) d28_118 (tlt hc11).1 (by decide) <| ?_
            exact Runs.iconst d28_125 ci_0 <| Runs.forget [true, true, true, true, false, false, false] rfl <| X_chooseVictim_b126_p k4 hk4 (sI ob 7 (((gI ob 7) + (1 : Int32)) % (gI ob 2))) i1 i2 (gI ob 7) (0 : Int32) hf
          · refine Runs.icN d28_118 (flt hc11).1 <| ?_
            exact Runs.iconst d28_121 ci_1 <| Runs.goto (pc' := 126) d28_122 (by decide) <| Runs.forget [true, true, true, true, false, false, false] rfl <| X_chooseVictim_b126_p k4 hk4 (sI ob 7 (((gI ob 7) + (1 : Int32)) % (gI ob 2))) i1 i2 (gI ob 7) (1 : Int32) hf
        · refine Runs.ifY (pc' := 121) d28_96 (feq hc8).2 (by decide) <| ?_
          exact Runs.iconst d28_121 ci_1 <| Runs.goto (pc' := 126) d28_122 (by decide) <| Runs.forget [true, true, true, true, false, false, false] rfl <| X_chooseVictim_b126_p k4 hk4 (sI ob 7 (((gI ob 7) + (1 : Int32)) % (gI ob 2))) i1 i2 (gI ob 7) (1 : Int32) hf
      · refine Runs.ifN d28_62 (feq hc6).1 <| ?_
        refine Runs.aloadN d28_65 rfl <| Runs.getA d28_66 fA_13 w37 (by decide) <| Runs.iloadN d28_69 rfl <| Runs.iconst d28_70 ci_0 <| ?_
        refine chk_el hf fun hi12 hf => ?_
        refine Runs.bastoreA (y := (0 : Int32)) d28_71 fA_13 (by decide) hi12 rfl <| Runs.aloadN d28_72 rfl <| Runs.getA d28_73 fA_11 w33 (by decide) <| Runs.iload d28_76 rfl <| Runs.aloadN d28_78 rfl <| Runs.getA d28_79 fA_1 w13 (by decide) <| Runs.iload d28_82 rfl <| ?_
        refine chk_el hf fun hi13 hf => ?_
        refine Runs.ialoadA d28_84 fA_1 (by decide) hi13 <| ?_
        refine chk_el hf fun hi14 hf => ?_
        exact Runs.iastoreA d28_85 fA_11 (by decide) hi14 <| Runs.goto (pc' := 167) d28_86 (by decide) <| Runs.iinc (P' := [vr a, vi i1, vi (i2 + (1 : Int32)), vi (gI ob 7), vi (gA ob 12 (gI ob 7)), vi ((gA ob 12 (gI ob 7)) / (16 : Int32)), vn]) d28_167 ci_1 rfl (by decide) rfl <| Runs.goto (pc' := 4) d28_170 (by decide) <| Runs.forget [true, true, true, false, false, false, false] rfl <| hk4 (sA (sA (sI ob 7 (((gI ob 7) + (1 : Int32)) % (gI ob 2))) 13 (gI ob 7) (0 : Int32)) 11 (gA ob 12 (gI ob 7)) (gA ob 1 ((gA ob 12 (gI ob 7)) / (16 : Int32)))) i1 (i2 + (1 : Int32)) hf
  · refine Runs.icY (pc' := 173) d28_11 (flt hc1).2.1 (by decide) <| ?_
    refine Runs.iloadN d28_173 rfl <| ?_
    refine ite_el hf (fun hc15 hf => ?_) (fun hc15 hf => ?_)
    · refine Runs.ifY (pc' := 179) d28_174 (tlt hc15).1 (by decide) <| ?_
      refine Runs.aloadN d28_179 rfl <| Runs.getI d28_180 w65 fS_7 <| Runs.istoreN (P' := [vr a, vi i1, vi (gI ob 7), vn, vn, vn, vn]) d28_183 (by decide) rfl <| Runs.aloadN d28_184 rfl <| Runs.aloadN d28_185 rfl <| Runs.getI d28_186 w65 fS_7 <| Runs.iconst d28_189 ci_1 <| Runs.iadd d28_190 <| Runs.aloadN d28_191 rfl <| Runs.getI d28_192 w55 fS_2 <| ?_
      refine dvz_el hf fun hz16 hf => ?_
      obtain rfl := Option.some.inj hf
      exact Runs.irem d28_195 hz16 <| Runs.putI d28_196 w65 fS_7 (Or.inl w66) <| Runs.iloadN d28_199 rfl <| Runs.retI d28_200 rfl ⟨by decide, by decide⟩ ⟨rfl, rfl⟩
    · refine Runs.ifN d28_174 (flt hc15).1 <| ?_
      obtain rfl := Option.some.inj hf
      exact Runs.iloadN d28_177 rfl <| Runs.retI d28_178 rfl ⟨by decide, by decide⟩ ⟨rfl, rfl⟩
theorem X_chooseVictim_l4_p {C : Ctx} {top : Nat} {a : Nat} {H : List (Nat × Nat × Rec)} {res : Int32 × Rec} {NF : Nat} (n : Nat) (ob : Rec) (i1 : Int32) (i2 : Int32) (hf : X_chooseVictim_l4 NF n ob i1 i2 = some res) : Runs C B28 0 0 4 [vr a, vi i1, vi i2, vn, vn, vn, vn] [] (top, (a, 18, ob) :: H) (Ans (some (.int res.1)) (top, (a, 18, res.2) :: H)) := by
  induction n generalizing ob i1 i2 with
  | zero => cases (show (none : Option (Int32 × Rec)) = some res from hf)
  | succ n ih => exact X_chooseVictim_w4_p (X_chooseVictim_l4 NF n) (fun ob i1 i2 h => ih _ _ _ h) ob i1 i2 hf
def X_chooseVictim (NF : Nat) (ob : Rec) : Option (Int32 × Rec) :=
  X_chooseVictim_l4 NF NF ob (-1 : Int32) (0 : Int32)
set_option maxRecDepth 65536 in
set_option maxHeartbeats 4000000 in
theorem X_chooseVictim_p {C : Ctx} {top : Nat} {a : Nat} {H : List (Nat × Nat × Rec)} {res : Int32 × Rec} {NF : Nat} (ob : Rec) (hf : X_chooseVictim NF ob = some res) : Runs C B28 0 0 0 [vr a, vn, vn, vn, vn, vn, vn] [] (top, (a, 18, ob) :: H) (Ans (some (.int res.1)) (top, (a, 18, res.2) :: H)) := by
  delta X_chooseVictim at hf
  exact Runs.iconst d28_0 ci_m1 <| Runs.istoreN (P' := [vr a, vi (-1 : Int32), vn, vn, vn, vn, vn]) d28_1 (by decide) rfl <| Runs.iconst d28_2 ci_0 <| Runs.istoreN (P' := [vr a, vi (-1 : Int32), vi (0 : Int32), vn, vn, vn, vn]) d28_3 (by decide) rfl <| X_chooseVictim_l4_p NF ob (-1 : Int32) (0 : Int32) hf
theorem X_chooseVictim_pay {C : Ctx} {top : Nat} {a : Nat} {H : List (Nat × Nat × Rec)} {res : Int32 × Rec} {NF : Nat} {ob : Rec} (hf : X_chooseVictim NF ob = some res) : Pays C B28 [.ref a] (top, (a, 18, ob) :: H) (Ans (some (.int res.1)) (top, (a, 18, res.2) :: H)) :=
  Pays.of pnK (Nat.le_of_ble_eq_true rfl) (P := [vr a, vn, vn, vn, vn, vn, vn]) 6 rfl (X_chooseVictim_p ob hf)
def X_evictFrame_b26 (NF : Nat) (ob : Rec) (i1 : Int32) (i2 : Int32) : Option (Rec) :=
  chk (64 : Int32) i2 <|
  chk (32 : Int32) i1 <|
  chk (32 : Int32) i1 <|
  chk (32 : Int32) i1 <|
  some (sA (sA (sA (sA ob 9 i2 (-1 : Int32)) 12 i1 (-1 : Int32)) 13 i1 (0 : Int32)) 14 i1 (0 : Int32))
set_option maxRecDepth 65536 in
set_option maxHeartbeats 4000000 in
theorem X_evictFrame_b26_p {C : Ctx} {top : Nat} {a : Nat} {H : List (Nat × Nat × Rec)} {res : Rec} {NF : Nat} (ob : Rec) (i1 : Int32) (i2 : Int32) (hf : X_evictFrame_b26 NF ob i1 i2 = some res) : Runs C B29 0 0 26 [vr a, vi i1, vi i2] [] (top, (a, 18, ob) :: H) (Ans none (top, (a, 18, res) :: H)) := by
  delta X_evictFrame_b26 at hf
  refine Runs.aloadN d29_26 rfl <| Runs.getA d29_27 fA_9 w29 (by decide) <| Runs.iloadN d29_30 rfl <| Runs.iconst d29_31 ci_m1 <| ?_
  refine chk_el hf fun hi1 hf => ?_
  refine Runs.iastoreA d29_32 fA_9 (by decide) hi1 <| Runs.aloadN d29_33 rfl <| Runs.getA d29_34 fA_12 w35 (by decide) <| Runs.iloadN d29_37 rfl <| Runs.iconst d29_38 ci_m1 <| ?_
  refine chk_el hf fun hi2 hf => ?_
  refine Runs.iastoreA d29_39 fA_12 (by decide) hi2 <| Runs.aloadN d29_40 rfl <| Runs.getA d29_41 fA_13 w37 (by decide) <| Runs.iloadN d29_44 rfl <| Runs.iconst d29_45 ci_0 <| ?_
  refine chk_el hf fun hi3 hf => ?_
  refine Runs.bastoreA (y := (0 : Int32)) d29_46 fA_13 (by decide) hi3 rfl <| Runs.aloadN d29_47 rfl <| Runs.getA d29_48 fA_14 w39 (by decide) <| Runs.iloadN d29_51 rfl <| Runs.iconst d29_52 ci_0 <| ?_
  refine chk_el hf fun hi4 hf => ?_
  obtain rfl := Option.some.inj hf
  exact Runs.bastoreA (y := (0 : Int32)) d29_53 fA_14 (by decide) hi4 rfl <| Runs.retV d29_54 rfl ⟨by decide, by decide⟩ ⟨rfl, rfl⟩
def X_evictFrame (NF : Nat) (ob : Rec) (i1 : Int32) : Option (Rec) :=
  chk (32 : Int32) i1 <|
  if (gA ob 12 i1) < (0 : Int32) then
    some ob
  else
    chk (32 : Int32) i1 <|
    if (gA ob 14 i1) = (0 : Int32) then
      X_evictFrame_b26 NF ob i1 (gA ob 12 i1)
    else
      (X_writeBack NF ob i1).bind fun q9 =>
      X_evictFrame_b26 NF q9 i1 (gA ob 12 i1)
set_option maxRecDepth 65536 in
set_option maxHeartbeats 4000000 in
theorem X_evictFrame_p {C : Ctx} {top : Nat} {a : Nat} {H : List (Nat × Nat × Rec)} {res : Rec} {NF : Nat} (ob : Rec) (i1 : Int32) (hf : X_evictFrame NF ob i1 = some res) : Runs C B29 0 0 0 [vr a, vi i1, vn] [] (top, (a, 18, ob) :: H) (Ans none (top, (a, 18, res) :: H)) := by
  delta X_evictFrame at hf
  refine Runs.aloadN d29_0 rfl <| Runs.getA d29_1 fA_12 w35 (by decide) <| Runs.iloadN d29_4 rfl <| ?_
  refine chk_el hf fun hi5 hf => ?_
  refine Runs.ialoadA d29_5 fA_12 (by decide) hi5 <| Runs.istoreN (P' := [vr a, vi i1, vi (gA ob 12 i1)]) d29_6 (by decide) rfl <| Runs.iloadN d29_7 rfl <| ?_
  refine ite_el hf (fun hc6 hf => ?_) (fun hc6 hf => ?_)
  · refine Runs.ifN d29_8 (tlt hc6).2.1 <| ?_
    obtain rfl := Option.some.inj hf
    exact Runs.retV d29_11 rfl ⟨by decide, by decide⟩ ⟨rfl, rfl⟩
  · refine Runs.ifY (pc' := 12) d29_8 (flt hc6).2.1 (by decide) <| ?_
    refine Runs.aloadN d29_12 rfl <| Runs.getA d29_13 fA_14 w39 (by decide) <| Runs.iloadN d29_16 rfl <| ?_
    refine chk_el hf fun hi7 hf => ?_
    refine Runs.baloadA d29_17 fA_14 (by decide) hi7 <| ?_
    refine ite_el hf (fun hc8 hf => ?_) (fun hc8 hf => ?_)
    · exact Runs.ifY (pc' := 26) d29_18 (teq hc8).1 (by decide) <| X_evictFrame_b26_p ob i1 (gA ob 12 i1) hf
    · refine Runs.ifN d29_18 (feq hc8).1 <| ?_
      refine Runs.aloadN d29_21 rfl <| Runs.iloadN d29_22 rfl <| ?_
      refine bind_el hf fun q9 hg10 hf => ?_
      exact Runs.callP (N := B31) (W := 0) (as := [.int i1]) (S' := []) d29_23 w196 w197 w198 rfl cw31 ar31 rk29_31_0 (by decide) rfl rfl (X_writeBack_pay hg10) <| ans0 <| X_evictFrame_b26_p q9 i1 (gA ob 12 i1) hf
theorem X_evictFrame_pay {C : Ctx} {top : Nat} {a : Nat} {H : List (Nat × Nat × Rec)} {res : Rec} {NF : Nat} {ob : Rec} {i1 : Int32} (hf : X_evictFrame NF ob i1 = some res) : Pays C B29 [.ref a, .int i1] (top, (a, 18, ob) :: H) (Ans none (top, (a, 18, res) :: H)) :=
  Pays.of pnK (Nat.le_of_ble_eq_true rfl) (P := [vr a, vi i1, vn]) 1 rfl (X_evictFrame_p ob i1 hf)
def X_fillFrame_w15 (NF : Nat) (k15 : Rec → Int32 → Int32 → Int32 → Int32 → Int32 → Option (Rec)) (ob : Rec) (i1 : Int32) (i2 : Int32) (i3 : Int32) (i4 : Int32) (i5 : Int32) : Option (Rec) :=
  if i5 < (4 : Int32) then
    if i3 < (0 : Int32) then
      chk (128 : Int32) (i4 + i5) <|
      k15 (sA ob 15 (i4 + i5) (0 : Int32)) i1 i2 i3 i4 (i5 + (1 : Int32))
    else
      chk (256 : Int32) ((i3 * (4 : Int32)) + i5) <|
      chk (128 : Int32) (i4 + i5) <|
      k15 (sA ob 15 (i4 + i5) (gA ob 17 ((i3 * (4 : Int32)) + i5))) i1 i2 i3 i4 (i5 + (1 : Int32))
  else
    chk (32 : Int32) i1 <|
    chk (32 : Int32) i1 <|
    chk (32 : Int32) i1 <|
    chk (64 : Int32) i2 <|
    chk (4 : Int32) (i2 / (16 : Int32)) <|
    chk (64 : Int32) i2 <|
    some (sA (sA (sA (sA (sA ob 12 i1 i2) 13 i1 (0 : Int32)) 14 i1 (0 : Int32)) 9 i2 i1) 11 i2 (gA ob 1 (i2 / (16 : Int32))))
def X_fillFrame_l15 (NF : Nat) : Nat → Rec → Int32 → Int32 → Int32 → Int32 → Int32 → Option (Rec)
  | 0, _, _, _, _, _, _ => none
  | n + 1, ob, i1, i2, i3, i4, i5 => X_fillFrame_w15 NF (X_fillFrame_l15 NF n) ob i1 i2 i3 i4 i5
set_option maxRecDepth 65536 in
set_option maxHeartbeats 4000000 in
theorem X_fillFrame_w15_p {C : Ctx} {top : Nat} {a : Nat} {H : List (Nat × Nat × Rec)} {res : Rec} {NF : Nat} (k15 : Rec → Int32 → Int32 → Int32 → Int32 → Int32 → Option (Rec)) (hk15 : ∀ (ob : Rec) (i1 : Int32) (i2 : Int32) (i3 : Int32) (i4 : Int32) (i5 : Int32), k15 ob i1 i2 i3 i4 i5 = some res → Runs C B10 0 0 15 [vr a, vi i1, vi i2, vi i3, vi i4, vi i5] [] (top, (a, 18, ob) :: H) (Ans none (top, (a, 18, res) :: H))) (ob : Rec) (i1 : Int32) (i2 : Int32) (i3 : Int32) (i4 : Int32) (i5 : Int32) (hf : X_fillFrame_w15 NF k15 ob i1 i2 i3 i4 i5 = some res) : Runs C B10 0 0 15 [vr a, vi i1, vi i2, vi i3, vi i4, vi i5] [] (top, (a, 18, ob) :: H) (Ans none (top, (a, 18, res) :: H)) := by
  delta X_fillFrame_w15 at hf
  refine Runs.iload d10_15 rfl <| Runs.iconst d10_17 ci_4 <| ?_
  refine ite_el hf (fun hc1 hf => ?_) (fun hc1 hf => ?_)
  · refine Runs.icN d10_18 (tlt hc1).2.1 <| ?_
    refine Runs.iloadN d10_21 rfl <| ?_
    refine ite_el hf (fun hc2 hf => ?_) (fun hc2 hf => ?_)
    · refine Runs.ifY (pc' := 49) d10_22 (tlt hc2).1 (by decide) <| ?_
      refine Runs.aloadN d10_49 rfl <| Runs.getA d10_50 fA_15 w41 (by decide) <| Runs.iload d10_53 rfl <| Runs.iload d10_55 rfl <| Runs.iadd d10_57 <| Runs.iconst d10_58 ci_0 <| ?_
      refine chk_el hf fun hi3 hf => ?_
      exact Runs.iastoreA d10_59 fA_15 (by decide) hi3 <| Runs.iinc (P' := [vr a, vi i1, vi i2, vi i3, vi i4, vi (i5 + (1 : Int32))]) d10_60 ci_1 rfl (by decide) rfl <| Runs.goto (pc' := 15) d10_63 (by decide) <| hk15 (sA ob 15 (i4 + i5) (0 : Int32)) i1 i2 i3 i4 (i5 + (1 : Int32)) hf
    · refine Runs.ifN d10_22 (flt hc2).1 <| ?_
      refine Runs.aloadN d10_25 rfl <| Runs.getA d10_26 fA_15 w41 (by decide) <| Runs.iload d10_29 rfl <| Runs.iload d10_31 rfl <| Runs.iadd d10_33 <| Runs.aloadN d10_34 rfl <| Runs.getA d10_35 fA_17 w45 (by decide) <| Runs.iloadN d10_38 rfl <| Runs.iconst d10_39 ci_4 <| Runs.imul d10_40 <| Runs.iload d10_41 rfl <| Runs.iadd d10_43 <| ?_
      refine chk_el hf fun hi4 hf => ?_
      refine Runs.ialoadA d10_44 fA_17 (by decide) hi4 <| ?_
      refine chk_el hf fun hi5 hf => ?_
      exact Runs.iastoreA d10_45 fA_15 (by decide) hi5 <| Runs.goto (pc' := 60) d10_46 (by decide) <| Runs.iinc (P' := [vr a, vi i1, vi i2, vi i3, vi i4, vi (i5 + (1 : Int32))]) d10_60 ci_1 rfl (by decide) rfl <| Runs.goto (pc' := 15) d10_63 (by decide) <| hk15 (sA ob 15 (i4 + i5) (gA ob 17 ((i3 * (4 : Int32)) + i5))) i1 i2 i3 i4 (i5 + (1 : Int32)) hf
  · refine Runs.icY (pc' := 66) d10_18 (flt hc1).2.1 (by decide) <| ?_
    refine Runs.aloadN d10_66 rfl <| Runs.getA d10_67 fA_12 w35 (by decide) <| Runs.iloadN d10_70 rfl <| Runs.iloadN d10_71 rfl <| ?_
    refine chk_el hf fun hi6 hf => ?_
    refine Runs.iastoreA d10_72 fA_12 (by decide) hi6 <| Runs.aloadN d10_73 rfl <| Runs.getA d10_74 fA_13 w37 (by decide) <| Runs.iloadN d10_77 rfl <| Runs.iconst d10_78 ci_0 <| ?_
    refine chk_el hf fun hi7 hf => ?_
    refine Runs.bastoreA (y := (0 : Int32)) d10_79 fA_13 (by decide) hi7 rfl <| Runs.aloadN d10_80 rfl <| Runs.getA d10_81 fA_14 w39 (by decide) <| Runs.iloadN d10_84 rfl <| Runs.iconst d10_85 ci_0 <| ?_
    refine chk_el hf fun hi8 hf => ?_
    refine Runs.bastoreA (y := (0 : Int32)) d10_86 fA_14 (by decide) hi8 rfl <| Runs.aloadN d10_87 rfl <| Runs.getA d10_88 fA_9 w29 (by decide) <| Runs.iloadN d10_91 rfl <| Runs.iloadN d10_92 rfl <| ?_
    refine chk_el hf fun hi9 hf => ?_
    refine Runs.iastoreA d10_93 fA_9 (by decide) hi9 <| Runs.aloadN d10_94 rfl <| Runs.getA d10_95 fA_11 w33 (by decide) <| Runs.iloadN d10_98 rfl <| Runs.aloadN d10_99 rfl <| Runs.getA d10_100 fA_1 w13 (by decide) <| Runs.iloadN d10_103 rfl <| Runs.bipush d10_104 cb_16 <| Runs.idiv d10_106 (by decide) <| ?_
    refine chk_el hf fun hi10 hf => ?_
    refine Runs.ialoadA d10_107 fA_1 (by decide) hi10 <| ?_
    refine chk_el hf fun hi11 hf => ?_
    obtain rfl := Option.some.inj hf
    exact Runs.iastoreA d10_108 fA_11 (by decide) hi11 <| Runs.retV d10_109 rfl ⟨by decide, by decide⟩ ⟨rfl, rfl⟩
theorem X_fillFrame_l15_p {C : Ctx} {top : Nat} {a : Nat} {H : List (Nat × Nat × Rec)} {res : Rec} {NF : Nat} (n : Nat) (ob : Rec) (i1 : Int32) (i2 : Int32) (i3 : Int32) (i4 : Int32) (i5 : Int32) (hf : X_fillFrame_l15 NF n ob i1 i2 i3 i4 i5 = some res) : Runs C B10 0 0 15 [vr a, vi i1, vi i2, vi i3, vi i4, vi i5] [] (top, (a, 18, ob) :: H) (Ans none (top, (a, 18, res) :: H)) := by
  induction n generalizing ob i1 i2 i3 i4 i5 with
  | zero => cases (show (none : Option (Rec)) = some res from hf)
  | succ n ih => exact X_fillFrame_w15_p (X_fillFrame_l15 NF n) (fun ob i1 i2 i3 i4 i5 h => ih _ _ _ _ _ _ h) ob i1 i2 i3 i4 i5 hf
def X_fillFrame (NF : Nat) (ob : Rec) (i1 : Int32) (i2 : Int32) : Option (Rec) :=
  chk (64 : Int32) i2 <|
  X_fillFrame_l15 NF NF ob i1 i2 (gA ob 10 i2) (i1 * (4 : Int32)) (0 : Int32)
set_option maxRecDepth 65536 in
set_option maxHeartbeats 4000000 in
theorem X_fillFrame_p {C : Ctx} {top : Nat} {a : Nat} {H : List (Nat × Nat × Rec)} {res : Rec} {NF : Nat} (ob : Rec) (i1 : Int32) (i2 : Int32) (hf : X_fillFrame NF ob i1 i2 = some res) : Runs C B10 0 0 0 [vr a, vi i1, vi i2, vn, vn, vn] [] (top, (a, 18, ob) :: H) (Ans none (top, (a, 18, res) :: H)) := by
  delta X_fillFrame at hf
  refine Runs.aloadN d10_0 rfl <| Runs.getA d10_1 fA_10 w31 (by decide) <| Runs.iloadN d10_4 rfl <| ?_
  refine chk_el hf fun hi12 hf => ?_
  exact Runs.ialoadA d10_5 fA_10 (by decide) hi12 <| Runs.istoreN (P' := [vr a, vi i1, vi i2, vi (gA ob 10 i2), vn, vn]) d10_6 (by decide) rfl <| Runs.iloadN d10_7 rfl <| Runs.iconst d10_8 ci_4 <| Runs.imul d10_9 <| Runs.istore (P' := [vr a, vi i1, vi i2, vi (gA ob 10 i2), vi (i1 * (4 : Int32)), vn]) d10_10 (by decide) rfl <| Runs.iconst d10_12 ci_0 <| Runs.istore (P' := [vr a, vi i1, vi i2, vi (gA ob 10 i2), vi (i1 * (4 : Int32)), vi (0 : Int32)]) d10_13 (by decide) rfl <| X_fillFrame_l15_p NF ob i1 i2 (gA ob 10 i2) (i1 * (4 : Int32)) (0 : Int32) hf
theorem X_fillFrame_pay {C : Ctx} {top : Nat} {a : Nat} {H : List (Nat × Nat × Rec)} {res : Rec} {NF : Nat} {ob : Rec} {i1 : Int32} {i2 : Int32} (hf : X_fillFrame NF ob i1 i2 = some res) : Pays C B10 [.ref a, .int i1, .int i2] (top, (a, 18, ob) :: H) (Ans none (top, (a, 18, res) :: H)) :=
  Pays.of pnK (Nat.le_of_ble_eq_true rfl) (P := [vr a, vi i1, vi i2, vn, vn, vn]) 3 rfl (X_fillFrame_p ob i1 i2 hf)
def X_ensureResident_b46 (NF : Nat) (ob : Rec) (i3 : Int32) (i4 : Int32) : Option (Int32 × Rec) :=
  (X_fillFrame NF ob i4 i3).bind fun q1 =>
  some (i4, q1)
set_option maxRecDepth 65536 in
set_option maxHeartbeats 4000000 in
theorem X_ensureResident_b46_p {C : Ctx} {top : Nat} {a : Nat} {H : List (Nat × Nat × Rec)} {res : Int32 × Rec} {NF : Nat} (ob : Rec) (i3 : Int32) (i4 : Int32) (hf : X_ensureResident_b46 NF ob i3 i4 = some res) : Runs C B8 0 0 46 [vr a, vn, vn, vi i3, vi i4] [] (top, (a, 18, ob) :: H) (Ans (some (.int res.1)) (top, (a, 18, res.2) :: H)) := by
  delta X_ensureResident_b46 at hf
  refine Runs.aloadN d8_46 rfl <| Runs.iload d8_47 rfl <| Runs.iloadN d8_49 rfl <| ?_
  refine bind_el hf fun q1 hg2 hf => ?_
  obtain rfl := Option.some.inj hf
  exact Runs.callP (N := B10) (W := 0) (as := [.int i4, .int i3]) (S' := []) d8_50 w98 w99 w100 rfl cw10 ar10 rk8_10_0 (by decide) rfl rfl (X_fillFrame_pay hg2) <| ans0 <| Runs.iload d8_53 rfl <| Runs.retI d8_55 rfl ⟨by decide, by decide⟩ ⟨rfl, rfl⟩
def X_ensureResident (NF : Nat) (ob : Rec) (i1 : Int32) (i2 : Int32) : Option (Int32 × Rec) :=
  chk (64 : Int32) ((i1 * (16 : Int32)) + i2) <|
  if (gA ob 9 ((i1 * (16 : Int32)) + i2)) < (0 : Int32) then
    (X_findFreeFrame NF ob).bind fun r5 =>
    if r5 < (0 : Int32) then
      bind2 (X_chooseVictim NF ob) fun r8 q9 =>
      (X_evictFrame NF q9 r8).bind fun q11 =>
      X_ensureResident_b46 NF q11 ((i1 * (16 : Int32)) + i2) r8
    else
      X_ensureResident_b46 NF ob ((i1 * (16 : Int32)) + i2) r5
  else
    some ((gA ob 9 ((i1 * (16 : Int32)) + i2)), ob)
set_option maxRecDepth 65536 in
set_option maxHeartbeats 4000000 in
theorem X_ensureResident_p {C : Ctx} {top : Nat} {a : Nat} {H : List (Nat × Nat × Rec)} {res : Int32 × Rec} {NF : Nat} (ob : Rec) (i1 : Int32) (i2 : Int32) (hf : X_ensureResident NF ob i1 i2 = some res) : Runs C B8 0 0 0 [vr a, vi i1, vi i2, vn, vn] [] (top, (a, 18, ob) :: H) (Ans (some (.int res.1)) (top, (a, 18, res.2) :: H)) := by
  delta X_ensureResident at hf
  refine Runs.iloadN d8_0 rfl <| Runs.bipush d8_1 cb_16 <| Runs.imul d8_3 <| Runs.iloadN d8_4 rfl <| Runs.iadd d8_5 <| Runs.istoreN (P' := [vr a, vi i1, vi i2, vi ((i1 * (16 : Int32)) + i2), vn]) d8_6 (by decide) rfl <| Runs.aloadN d8_7 rfl <| Runs.getA d8_8 fA_9 w29 (by decide) <| Runs.iloadN d8_11 rfl <| ?_
  refine chk_el hf fun hi3 hf => ?_
  refine Runs.ialoadA d8_12 fA_9 (by decide) hi3 <| Runs.istore (P' := [vr a, vi i1, vi i2, vi ((i1 * (16 : Int32)) + i2), vi (gA ob 9 ((i1 * (16 : Int32)) + i2))]) d8_13 (by decide) rfl <| Runs.iload d8_15 rfl <| ?_
  refine ite_el hf (fun hc4 hf => ?_) (fun hc4 hf => ?_)
  · refine Runs.ifY (pc' := 23) d8_17 (tlt hc4).1 (by decide) <| ?_
    refine Runs.aloadN d8_23 rfl <| ?_
    refine bind_el hf fun r5 hg6 hf => ?_
    refine Runs.callP (N := B9) (W := 0) (as := []) (S' := []) d8_24 w94 w95 w96 rfl cw9 ar9 rk8_9_0 (by decide) rfl rfl (X_findFreeFrame_pay hg6) <| ans1 <| Runs.istore (P' := [vr a, vi i1, vi i2, vi ((i1 * (16 : Int32)) + i2), vi r5]) d8_27 (by decide) rfl <| Runs.iload d8_29 rfl <| ?_
    refine ite_el hf (fun hc7 hf => ?_) (fun hc7 hf => ?_)
    · refine Runs.ifN d8_31 (tlt hc7).2.1 <| ?_
      refine Runs.aloadN d8_34 rfl <| ?_
      refine bind2_el hf fun r8 q9 hg10 hf => ?_
      refine Runs.callP (N := B28) (W := 0) (as := []) (S' := []) d8_35 w184 w185 w186 rfl cw28 ar28 rk8_28_0 (by decide) rfl rfl (X_chooseVictim_pay hg10) <| ans1 <| Runs.istore (P' := [vr a, vi i1, vi i2, vi ((i1 * (16 : Int32)) + i2), vi r8]) d8_38 (by decide) rfl <| Runs.aloadN d8_40 rfl <| Runs.iload d8_41 rfl <| ?_
      refine bind_el hf fun q11 hg12 hf => ?_
      exact Runs.callP (N := B29) (W := 0) (as := [.int r8]) (S' := []) d8_43 w188 w189 w190 rfl cw29 ar29 rk8_29_0 (by decide) rfl rfl (X_evictFrame_pay hg12) <| ans0 <| Runs.forget [true, false, false, true, true] rfl <| X_ensureResident_b46_p q11 ((i1 * (16 : Int32)) + i2) r8 hf
    · exact Runs.ifY (pc' := 46) d8_31 (flt hc7).2.1 (by decide) <| Runs.forget [true, false, false, true, true] rfl <| X_ensureResident_b46_p ob ((i1 * (16 : Int32)) + i2) r5 hf
  · refine Runs.ifN d8_17 (flt hc4).1 <| ?_
    obtain rfl := Option.some.inj hf
    exact Runs.iload d8_20 rfl <| Runs.retI d8_22 rfl ⟨by decide, by decide⟩ ⟨rfl, rfl⟩
theorem X_ensureResident_pay {C : Ctx} {top : Nat} {a : Nat} {H : List (Nat × Nat × Rec)} {res : Int32 × Rec} {NF : Nat} {ob : Rec} {i1 : Int32} {i2 : Int32} (hf : X_ensureResident NF ob i1 i2 = some res) : Pays C B8 [.ref a, .int i1, .int i2] (top, (a, 18, ob) :: H) (Ans (some (.int res.1)) (top, (a, 18, res.2) :: H)) :=
  Pays.of pnK (Nat.le_of_ble_eq_true rfl) (P := [vr a, vi i1, vi i2, vn, vn]) 2 rfl (X_ensureResident_p ob i1 i2 hf)
def X_pushWindow_b135 (ob : Rec) (i1 : Int32) (i2 : Int32) (i3 : Int32) (i4 : Int32) : Option (Rec) :=
  chk (64 : Int32) (i3 + i2) <|
  chk (64 : Int32) (i3 + i2) <|
  dvz (gI ob 3) <|
  chk (4 : Int32) i1 <|
  some (sA (sA ob 7 (i3 + i2) ((gA ob 7 (i3 + i2)) + (1 : Int32))) 3 i1 ((i4 + (1 : Int32)) % (gI ob 3)))
set_option maxRecDepth 65536 in
set_option maxHeartbeats 4000000 in
theorem X_pushWindow_b135_p {C : Ctx} {top : Nat} {a : Nat} {H : List (Nat × Nat × Rec)} {res : Rec} (ob : Rec) (i1 : Int32) (i2 : Int32) (i3 : Int32) (i4 : Int32) (hf : X_pushWindow_b135 ob i1 i2 i3 i4 = some res) : Runs C B12 0 0 135 [vr a, vi i1, vi i2, vi i3, vi i4, vn] [] (top, (a, 18, ob) :: H) (Ans none (top, (a, 18, res) :: H)) := by
  delta X_pushWindow_b135 at hf
  refine Runs.aloadN d12_135 rfl <| Runs.getA d12_136 fA_7 w25 (by decide) <| Runs.iloadN d12_139 rfl <| Runs.iloadN d12_140 rfl <| Runs.iadd d12_141 <| Runs.aloadN d12_142 rfl <| Runs.getA d12_143 fA_7 w25 (by decide) <| Runs.iloadN d12_146 rfl <| Runs.iloadN d12_147 rfl <| Runs.iadd d12_148 <| ?_
  refine chk_el hf fun hi6 hf => ?_
  refine Runs.ialoadA d12_149 fA_7 (by decide) hi6 <| Runs.iconst d12_150 ci_1 <| Runs.iadd d12_151 <| ?_
  refine chk_el hf fun hi7 hf => ?_
  refine Runs.iastoreA d12_152 fA_7 (by decide) hi7 <| Runs.aloadN d12_153 rfl <| Runs.getA d12_154 fA_3 w17 (by decide) <| Runs.iloadN d12_157 rfl <| Runs.iload d12_158 rfl <| Runs.iconst d12_160 ci_1 <| Runs.iadd d12_161 <| Runs.aloadN d12_162 rfl <| Runs.getI d12_163 w57 fS_3 <| ?_
  refine dvz_el hf fun hz8 hf => ?_
  refine Runs.irem d12_166 hz8 <| ?_
  refine chk_el hf fun hi9 hf => ?_
  obtain rfl := Option.some.inj hf
  exact Runs.iastoreA d12_167 fA_3 (by decide) hi9 <| Runs.retV d12_168 rfl ⟨by decide, by decide⟩ ⟨rfl, rfl⟩
def X_pushWindow_b100 (ob : Rec) (i1 : Int32) (i2 : Int32) (i3 : Int32) (i4 : Int32) : Option (Rec) :=
  chk (64 : Int32) (i3 + i4) <|
  chk (64 : Int32) (i3 + i2) <|
  if (gA ob 7 (i3 + i2)) = (0 : Int32) then
    chk (4 : Int32) i1 <|
    chk (4 : Int32) i1 <|
    X_pushWindow_b135 (sA (sA ob 6 (i3 + i4) i2) 4 i1 ((gA ob 4 i1) + (1 : Int32))) i1 i2 i3 i4
  else
    X_pushWindow_b135 (sA ob 6 (i3 + i4) i2) i1 i2 i3 i4
set_option maxRecDepth 65536 in
set_option maxHeartbeats 4000000 in
theorem X_pushWindow_b100_p {C : Ctx} {top : Nat} {a : Nat} {H : List (Nat × Nat × Rec)} {res : Rec} (ob : Rec) (i1 : Int32) (i2 : Int32) (i3 : Int32) (i4 : Int32) (hf : X_pushWindow_b100 ob i1 i2 i3 i4 = some res) : Runs C B12 0 0 100 [vr a, vi i1, vi i2, vi i3, vi i4, vn] [] (top, (a, 18, ob) :: H) (Ans none (top, (a, 18, res) :: H)) := by
  delta X_pushWindow_b100 at hf
  refine Runs.aloadN d12_100 rfl <| Runs.getA d12_101 fA_6 w23 (by decide) <| Runs.iloadN d12_104 rfl <| Runs.iload d12_105 rfl <| Runs.iadd d12_107 <| Runs.iloadN d12_108 rfl <| ?_
  refine chk_el hf fun hi1 hf => ?_
  refine Runs.iastoreA d12_109 fA_6 (by decide) hi1 <| Runs.aloadN d12_110 rfl <| Runs.getA d12_111 fA_7 w25 (by decide) <| Runs.iloadN d12_114 rfl <| Runs.iloadN d12_115 rfl <| Runs.iadd d12_116 <| ?_
  refine chk_el hf fun hi2 hf => ?_
  refine Runs.ialoadA d12_117 fA_7 (by decide) hi2 <| ?_
  refine ite_el hf (fun hc3 hf => ?_) (fun hc3 hf => ?_)
  · refine Runs.ifN d12_118 (teq hc3).2 <| ?_
    refine Runs.aloadN d12_121 rfl <| Runs.getA d12_122 fA_4 w19 (by decide) <| Runs.iloadN d12_125 rfl <| Runs.aloadN d12_126 rfl <| Runs.getA d12_127 fA_4 w19 (by decide) <| Runs.iloadN d12_130 rfl <| ?_
    refine chk_el hf fun hi4 hf => ?_
    refine Runs.ialoadA d12_131 fA_4 (by decide) hi4 <| Runs.iconst d12_132 ci_1 <| Runs.iadd d12_133 <| ?_
    refine chk_el hf fun hi5 hf => ?_
    exact Runs.iastoreA d12_134 fA_4 (by decide) hi5 <| X_pushWindow_b135_p (sA (sA ob 6 (i3 + i4) i2) 4 i1 ((gA ob 4 i1) + (1 : Int32))) i1 i2 i3 i4 hf
  · exact Runs.ifY (pc' := 135) d12_118 (feq hc3).2 (by decide) <| X_pushWindow_b135_p (sA ob 6 (i3 + i4) i2) i1 i2 i3 i4 hf
def X_pushWindow (ob : Rec) (i1 : Int32) (i2 : Int32) : Option (Rec) :=
  chk (4 : Int32) i1 <|
  chk (4 : Int32) i1 <|
  if (gA ob 2 i1) < (gI ob 3) then
    chk (4 : Int32) i1 <|
    chk (4 : Int32) i1 <|
    X_pushWindow_b100 (sA ob 2 i1 ((gA ob 2 i1) + (1 : Int32))) i1 i2 (i1 * (16 : Int32)) (gA ob 3 i1)
  else
    chk (64 : Int32) ((i1 * (16 : Int32)) + (gA ob 3 i1)) <|
    chk (64 : Int32) ((i1 * (16 : Int32)) + (gA ob 6 ((i1 * (16 : Int32)) + (gA ob 3 i1)))) <|
    chk (64 : Int32) ((i1 * (16 : Int32)) + (gA ob 6 ((i1 * (16 : Int32)) + (gA ob 3 i1)))) <|
    chk (64 : Int32) ((i1 * (16 : Int32)) + (gA ob 6 ((i1 * (16 : Int32)) + (gA ob 3 i1)))) <|
    if (gA (sA ob 7 ((i1 * (16 : Int32)) + (gA ob 6 ((i1 * (16 : Int32)) + (gA ob 3 i1)))) ((gA ob 7 ((i1 * (16 : Int32)) + (gA ob 6 ((i1 * (16 : Int32)) + (gA ob 3 i1))))) - (1 : Int32))) 7 ((i1 * (16 : Int32)) + (gA ob 6 ((i1 * (16 : Int32)) + (gA ob 3 i1))))) = (0 : Int32) then
      chk (4 : Int32) i1 <|
      chk (4 : Int32) i1 <|
      X_pushWindow_b100 (sA (sA ob 7 ((i1 * (16 : Int32)) + (gA ob 6 ((i1 * (16 : Int32)) + (gA ob 3 i1)))) ((gA ob 7 ((i1 * (16 : Int32)) + (gA ob 6 ((i1 * (16 : Int32)) + (gA ob 3 i1))))) - (1 : Int32))) 4 i1 ((gA ob 4 i1) - (1 : Int32))) i1 i2 (i1 * (16 : Int32)) (gA ob 3 i1)
    else
      X_pushWindow_b100 (sA ob 7 ((i1 * (16 : Int32)) + (gA ob 6 ((i1 * (16 : Int32)) + (gA ob 3 i1)))) ((gA ob 7 ((i1 * (16 : Int32)) + (gA ob 6 ((i1 * (16 : Int32)) + (gA ob 3 i1))))) - (1 : Int32))) i1 i2 (i1 * (16 : Int32)) (gA ob 3 i1)
set_option maxRecDepth 65536 in
set_option maxHeartbeats 4000000 in
theorem X_pushWindow_p {C : Ctx} {top : Nat} {a : Nat} {H : List (Nat × Nat × Rec)} {res : Rec} (ob : Rec) (i1 : Int32) (i2 : Int32) (hf : X_pushWindow ob i1 i2 = some res) : Runs C B12 0 0 0 [vr a, vi i1, vi i2, vn, vn, vn] [] (top, (a, 18, ob) :: H) (Ans none (top, (a, 18, res) :: H)) := by
  delta X_pushWindow at hf
  refine Runs.iloadN d12_0 rfl <| Runs.bipush d12_1 cb_16 <| Runs.imul d12_3 <| Runs.istoreN (P' := [vr a, vi i1, vi i2, vi (i1 * (16 : Int32)), vn, vn]) d12_4 (by decide) rfl <| Runs.aloadN d12_5 rfl <| Runs.getA d12_6 fA_3 w17 (by decide) <| Runs.iloadN d12_9 rfl <| ?_
  refine chk_el hf fun hi10 hf => ?_
  refine Runs.ialoadA d12_10 fA_3 (by decide) hi10 <| Runs.istore (P' := [vr a, vi i1, vi i2, vi (i1 * (16 : Int32)), vi (gA ob 3 i1), vn]) d12_11 (by decide) rfl <| Runs.aloadN d12_13 rfl <| Runs.getA d12_14 fA_2 w15 (by decide) <| Runs.iloadN d12_17 rfl <| ?_
  refine chk_el hf fun hi11 hf => ?_
  refine Runs.ialoadA d12_18 fA_2 (by decide) hi11 <| Runs.aloadN d12_19 rfl <| Runs.getI d12_20 w57 fS_3 <| ?_
  refine ite_el hf (fun hc12 hf => ?_) (fun hc12 hf => ?_)
  · refine Runs.icY (pc' := 86) d12_23 (tlt hc12).1 (by decide) <| ?_
    refine Runs.aloadN d12_86 rfl <| Runs.getA d12_87 fA_2 w15 (by decide) <| Runs.iloadN d12_90 rfl <| Runs.aloadN d12_91 rfl <| Runs.getA d12_92 fA_2 w15 (by decide) <| Runs.iloadN d12_95 rfl <| ?_
    refine chk_el hf fun hi13 hf => ?_
    refine Runs.ialoadA d12_96 fA_2 (by decide) hi13 <| Runs.iconst d12_97 ci_1 <| Runs.iadd d12_98 <| ?_
    refine chk_el hf fun hi14 hf => ?_
    exact Runs.iastoreA d12_99 fA_2 (by decide) hi14 <| X_pushWindow_b100_p (sA ob 2 i1 ((gA ob 2 i1) + (1 : Int32))) i1 i2 (i1 * (16 : Int32)) (gA ob 3 i1) hf
  · refine Runs.icN d12_23 (flt hc12).1 <| ?_
    refine Runs.aloadN d12_26 rfl <| Runs.getA d12_27 fA_6 w23 (by decide) <| Runs.iloadN d12_30 rfl <| Runs.iload d12_31 rfl <| Runs.iadd d12_33 <| ?_
    refine chk_el hf fun hi15 hf => ?_
    refine Runs.ialoadA d12_34 fA_6 (by decide) hi15 <| Runs.istore (P' := [vr a, vi i1, vi i2, vi (i1 * (16 : Int32)), vi (gA ob 3 i1), vi (gA ob 6 ((i1 * (16 : Int32)) + (gA ob 3 i1)))]) d12_35 (by decide) rfl <| Runs.aloadN d12_37 rfl <| Runs.getA d12_38 fA_7 w25 (by decide) <| Runs.iloadN d12_41 rfl <| Runs.iload d12_42 rfl <| Runs.iadd d12_44 <| Runs.aloadN d12_45 rfl <| Runs.getA d12_46 fA_7 w25 (by decide) <| Runs.iloadN d12_49 rfl <| Runs.iload d12_50 rfl <| Runs.iadd d12_52 <| ?_
    refine chk_el hf fun hi16 hf => ?_
    refine Runs.ialoadA d12_53 fA_7 (by decide) hi16 <| Runs.iconst d12_54 ci_1 <| Runs.isub d12_55 <| ?_
    refine chk_el hf fun hi17 hf => ?_
    refine Runs.iastoreA d12_56 fA_7 (by decide) hi17 <| Runs.aloadN d12_57 rfl <| Runs.getA d12_58 fA_7 w25 (by decide) <| Runs.iloadN d12_61 rfl <| Runs.iload d12_62 rfl <| Runs.iadd d12_64 <| ?_
    refine chk_el hf fun hi18 hf => ?_
    refine Runs.ialoadA d12_65 fA_7 (by decide) hi18 <| ?_
    refine ite_el hf (fun hc19 hf => ?_) (fun hc19 hf => ?_)
    · refine Runs.ifN d12_66 (teq hc19).2 <| ?_
      refine Runs.aloadN d12_69 rfl <| Runs.getA d12_70 fA_4 w19 (by decide) <| Runs.iloadN d12_73 rfl <| Runs.aloadN d12_74 rfl <| Runs.getA d12_75 fA_4 w19 (by decide) <| Runs.iloadN d12_78 rfl <| ?_
      refine chk_el hf fun hi20 hf => ?_
      refine Runs.ialoadA d12_79 fA_4 (by decide) hi20 <| Runs.iconst d12_80 ci_1 <| Runs.isub d12_81 <| ?_
      refine chk_el hf fun hi21 hf => ?_
      exact Runs.iastoreA d12_82 fA_4 (by decide) hi21 <| Runs.goto (pc' := 100) d12_83 (by decide) <| Runs.forget [true, true, true, true, true, false] rfl <| X_pushWindow_b100_p (sA (sA ob 7 ((i1 * (16 : Int32)) + (gA ob 6 ((i1 * (16 : Int32)) + (gA ob 3 i1)))) ((gA ob 7 ((i1 * (16 : Int32)) + (gA ob 6 ((i1 * (16 : Int32)) + (gA ob 3 i1))))) - (1 : Int32))) 4 i1 ((gA ob 4 i1) - (1 : Int32))) i1 i2 (i1 * (16 : Int32)) (gA ob 3 i1) hf
    · refine Runs.ifY (pc' := 83) d12_66 (feq hc19).2 (by decide) <| ?_
      exact Runs.goto (pc' := 100) d12_83 (by decide) <| Runs.forget [true, true, true, true, true, false] rfl <| X_pushWindow_b100_p (sA ob 7 ((i1 * (16 : Int32)) + (gA ob 6 ((i1 * (16 : Int32)) + (gA ob 3 i1)))) ((gA ob 7 ((i1 * (16 : Int32)) + (gA ob 6 ((i1 * (16 : Int32)) + (gA ob 3 i1))))) - (1 : Int32))) i1 i2 (i1 * (16 : Int32)) (gA ob 3 i1) hf
theorem X_pushWindow_pay {C : Ctx} {top : Nat} {a : Nat} {H : List (Nat × Nat × Rec)} {res : Rec} {ob : Rec} {i1 : Int32} {i2 : Int32} (hf : X_pushWindow ob i1 i2 = some res) : Pays C B12 [.ref a, .int i1, .int i2] (top, (a, 18, ob) :: H) (Ans none (top, (a, 18, res) :: H)) :=
  Pays.of pnK (Nat.le_of_ble_eq_true rfl) (P := [vr a, vi i1, vi i2, vn, vn, vn]) 3 rfl (X_pushWindow_p ob i1 i2 hf)
def X_recordReference_b28 (ob : Rec) (i1 : Int32) (i2 : Int32) (i3 : Int32) : Option (Rec) :=
  chk (4 : Int32) i1 <|
  chk (4 : Int32) i1 <|
  chk (4 : Int32) i1 <|
  chk (64 : Int32) i3 <|
  (X_pushWindow (sA (sA ob 1 i1 ((gA ob 1 i1) + (1 : Int32))) 11 i3 (gA (sA ob 1 i1 ((gA ob 1 i1) + (1 : Int32))) 1 i1)) i1 i2).bind fun q5 =>
  chk (64 : Int32) i3 <|
  if (gA q5 8 i3) = (0 : Int32) then
    chk (64 : Int32) i3 <|
    chk (4 : Int32) i1 <|
    chk (4 : Int32) i1 <|
    some (sA (sA q5 8 i3 (1 : Int32)) 5 i1 ((gA q5 5 i1) + (1 : Int32)))
  else
    some q5
set_option maxRecDepth 65536 in
set_option maxHeartbeats 4000000 in
theorem X_recordReference_b28_p {C : Ctx} {top : Nat} {a : Nat} {H : List (Nat × Nat × Rec)} {res : Rec} (ob : Rec) (i1 : Int32) (i2 : Int32) (i3 : Int32) (hf : X_recordReference_b28 ob i1 i2 i3 = some res) : Runs C B11 0 0 28 [vr a, vi i1, vi i2, vi i3, vn] [] (top, (a, 18, ob) :: H) (Ans none (top, (a, 18, res) :: H)) := by
  delta X_recordReference_b28 at hf
  refine Runs.aloadN d11_28 rfl <| Runs.getA d11_29 fA_1 w13 (by decide) <| Runs.iloadN d11_32 rfl <| Runs.aloadN d11_33 rfl <| Runs.getA d11_34 fA_1 w13 (by decide) <| Runs.iloadN d11_37 rfl <| ?_
  refine chk_el hf fun hi1 hf => ?_
  refine Runs.ialoadA d11_38 fA_1 (by decide) hi1 <| Runs.iconst d11_39 ci_1 <| Runs.iadd d11_40 <| ?_
  refine chk_el hf fun hi2 hf => ?_
  refine Runs.iastoreA d11_41 fA_1 (by decide) hi2 <| Runs.aloadN d11_42 rfl <| Runs.getA d11_43 fA_11 w33 (by decide) <| Runs.iloadN d11_46 rfl <| Runs.aloadN d11_47 rfl <| Runs.getA d11_48 fA_1 w13 (by decide) <| Runs.iloadN d11_51 rfl <| ?_
  refine chk_el hf fun hi3 hf => ?_
  refine Runs.ialoadA d11_52 fA_1 (by decide) hi3 <| ?_
  refine chk_el hf fun hi4 hf => ?_
  refine Runs.iastoreA d11_53 fA_11 (by decide) hi4 <| Runs.aloadN d11_54 rfl <| Runs.iloadN d11_55 rfl <| Runs.iloadN d11_56 rfl <| ?_
  refine bind_el hf fun q5 hg6 hf => ?_
  refine Runs.callP (N := B12) (W := 0) (as := [.int i1, .int i2]) (S' := []) d11_57 w106 w107 w108 rfl cw12 ar12 rk11_12_0 (by decide) rfl rfl (X_pushWindow_pay hg6) <| ans0 <| Runs.aloadN d11_60 rfl <| Runs.getA d11_61 fA_8 w27 (by decide) <| Runs.iloadN d11_64 rfl <| ?_
  refine chk_el hf fun hi7 hf => ?_
  refine Runs.baloadA d11_65 fA_8 (by decide) hi7 <| ?_
  refine ite_el hf (fun hc8 hf => ?_) (fun hc8 hf => ?_)
  · refine Runs.ifN d11_66 (teq hc8).2 <| ?_
    refine Runs.aloadN d11_69 rfl <| Runs.getA d11_70 fA_8 w27 (by decide) <| Runs.iloadN d11_73 rfl <| Runs.iconst d11_74 ci_1 <| ?_
    refine chk_el hf fun hi9 hf => ?_
    refine Runs.bastoreA (y := (1 : Int32)) d11_75 fA_8 (by decide) hi9 rfl <| Runs.aloadN d11_76 rfl <| Runs.getA d11_77 fA_5 w21 (by decide) <| Runs.iloadN d11_80 rfl <| Runs.aloadN d11_81 rfl <| Runs.getA d11_82 fA_5 w21 (by decide) <| Runs.iloadN d11_85 rfl <| ?_
    refine chk_el hf fun hi10 hf => ?_
    refine Runs.ialoadA d11_86 fA_5 (by decide) hi10 <| Runs.iconst d11_87 ci_1 <| Runs.iadd d11_88 <| ?_
    refine chk_el hf fun hi11 hf => ?_
    obtain rfl := Option.some.inj hf
    exact Runs.iastoreA d11_89 fA_5 (by decide) hi11 <| Runs.retV d11_90 rfl ⟨by decide, by decide⟩ ⟨rfl, rfl⟩
  · refine Runs.ifY (pc' := 90) d11_66 (feq hc8).2 (by decide) <| ?_
    obtain rfl := Option.some.inj hf
    exact Runs.retV d11_90 rfl ⟨by decide, by decide⟩ ⟨rfl, rfl⟩
def X_recordReference (ob : Rec) (i1 : Int32) (i2 : Int32) : Option (Rec) :=
  chk (64 : Int32) ((i1 * (16 : Int32)) + i2) <|
  if (gA ob 9 ((i1 * (16 : Int32)) + i2)) < (0 : Int32) then
    X_recordReference_b28 ob i1 i2 ((i1 * (16 : Int32)) + i2)
  else
    chk (32 : Int32) (gA ob 9 ((i1 * (16 : Int32)) + i2)) <|
    X_recordReference_b28 (sA ob 13 (gA ob 9 ((i1 * (16 : Int32)) + i2)) (1 : Int32)) i1 i2 ((i1 * (16 : Int32)) + i2)
set_option maxRecDepth 65536 in
set_option maxHeartbeats 4000000 in
theorem X_recordReference_p {C : Ctx} {top : Nat} {a : Nat} {H : List (Nat × Nat × Rec)} {res : Rec} (ob : Rec) (i1 : Int32) (i2 : Int32) (hf : X_recordReference ob i1 i2 = some res) : Runs C B11 0 0 0 [vr a, vi i1, vi i2, vn, vn] [] (top, (a, 18, ob) :: H) (Ans none (top, (a, 18, res) :: H)) := by
  delta X_recordReference at hf
  refine Runs.iloadN d11_0 rfl <| Runs.bipush d11_1 cb_16 <| Runs.imul d11_3 <| Runs.iloadN d11_4 rfl <| Runs.iadd d11_5 <| Runs.istoreN (P' := [vr a, vi i1, vi i2, vi ((i1 * (16 : Int32)) + i2), vn]) d11_6 (by decide) rfl <| Runs.aloadN d11_7 rfl <| Runs.getA d11_8 fA_9 w29 (by decide) <| Runs.iloadN d11_11 rfl <| ?_
  refine chk_el hf fun hi12 hf => ?_
  refine Runs.ialoadA d11_12 fA_9 (by decide) hi12 <| Runs.istore (P' := [vr a, vi i1, vi i2, vi ((i1 * (16 : Int32)) + i2), vi (gA ob 9 ((i1 * (16 : Int32)) + i2))]) d11_13 (by decide) rfl <| Runs.iload d11_15 rfl <| ?_
  refine ite_el hf (fun hc13 hf => ?_) (fun hc13 hf => ?_)
  · exact Runs.ifY (pc' := 28) d11_17 (tlt hc13).1 (by decide) <| Runs.forget [true, true, true, true, false] rfl <| X_recordReference_b28_p ob i1 i2 ((i1 * (16 : Int32)) + i2) hf
  · refine Runs.ifN d11_17 (flt hc13).1 <| ?_
    refine Runs.aloadN d11_20 rfl <| Runs.getA d11_21 fA_13 w37 (by decide) <| Runs.iload d11_24 rfl <| Runs.iconst d11_26 ci_1 <| ?_
    refine chk_el hf fun hi14 hf => ?_
    exact Runs.bastoreA (y := (1 : Int32)) d11_27 fA_13 (by decide) hi14 rfl <| Runs.forget [true, true, true, true, false] rfl <| X_recordReference_b28_p (sA ob 13 (gA ob 9 ((i1 * (16 : Int32)) + i2)) (1 : Int32)) i1 i2 ((i1 * (16 : Int32)) + i2) hf
theorem X_recordReference_pay {C : Ctx} {top : Nat} {a : Nat} {H : List (Nat × Nat × Rec)} {res : Rec} {ob : Rec} {i1 : Int32} {i2 : Int32} (hf : X_recordReference ob i1 i2 = some res) : Pays C B11 [.ref a, .int i1, .int i2] (top, (a, 18, ob) :: H) (Ans none (top, (a, 18, res) :: H)) :=
  Pays.of pnK (Nat.le_of_ble_eq_true rfl) (P := [vr a, vi i1, vi i2, vn, vn]) 2 rfl (X_recordReference_p ob i1 i2 hf)
def X_load (NF : Nat) (ob : Rec) (i1 : Int32) (i2 : Int32) : Option (Int64 × Rec) :=
  (X_check ob i1 i2).bind fun r1 =>
  if r1 = (0 : Int32) then
    bind2 (X_ensureResident NF ob i1 (i2 / (4 : Int32))) fun r4 q5 =>
    chk (128 : Int32) ((r4 * (4 : Int32)) + (i2 % (4 : Int32))) <|
    (X_recordReference q5 i1 (i2 / (4 : Int32))).bind fun q8 =>
    (X_loadControl NF q8 i1).bind fun q10 =>
    some ((gA q5 15 ((r4 * (4 : Int32)) + (i2 % (4 : Int32)))).toInt64, (sI q10 4 (0 : Int32)))
  else
    some ((-9223372036854775808 : Int64), (sI ob 4 r1))
set_option maxRecDepth 65536 in
set_option maxHeartbeats 4000000 in
theorem X_load_p {C : Ctx} {top : Nat} {a : Nat} {H : List (Nat × Nat × Rec)} {res : Int64 × Rec} {NF : Nat} (ob : Rec) (i1 : Int32) (i2 : Int32) (hf : X_load NF ob i1 i2 = some res) : Runs C B25 0 0 0 [vr a, vi i1, vi i2, vn, vn, vn, vn] [] (top, (a, 18, ob) :: H) (Ans (some (.long res.1)) (top, (a, 18, res.2) :: H)) := by
  delta X_load at hf
  refine Runs.aloadN d25_0 rfl <| Runs.iloadN d25_1 rfl <| Runs.iloadN d25_2 rfl <| ?_
  refine bind_el hf fun r1 hg2 hf => ?_
  refine Runs.callP (N := B7) (W := 0) (as := [.int i1, .int i2]) (S' := []) d25_3 w86 w87 w88 rfl cw7 ar7 rk25_7_0 (by decide) rfl rfl (X_check_pay hg2) <| ans1 <| Runs.istoreN (P' := [vr a, vi i1, vi i2, vi r1, vn, vn, vn]) d25_6 (by decide) rfl <| Runs.iloadN d25_7 rfl <| ?_
  refine ite_el hf (fun hc3 hf => ?_) (fun hc3 hf => ?_)
  · refine Runs.ifY (pc' := 20) d25_8 (teq hc3).1 (by decide) <| ?_
    refine Runs.iloadN d25_20 rfl <| Runs.iconst d25_21 ci_4 <| Runs.idiv d25_22 (by decide) <| Runs.istore (P' := [vr a, vi i1, vi i2, vi r1, vi (i2 / (4 : Int32)), vn, vn]) d25_23 (by decide) rfl <| Runs.aloadN d25_25 rfl <| Runs.iloadN d25_26 rfl <| Runs.iload d25_27 rfl <| ?_
    refine bind2_el hf fun r4 q5 hg6 hf => ?_
    refine Runs.callP (N := B8) (W := 0) (as := [.int i1, .int (i2 / (4 : Int32))]) (S' := []) d25_29 w90 w91 w92 rfl cw8 ar8 rk25_8_0 (by decide) rfl rfl (X_ensureResident_pay hg6) <| ans1 <| Runs.istore (P' := [vr a, vi i1, vi i2, vi r1, vi (i2 / (4 : Int32)), vi r4, vn]) d25_32 (by decide) rfl <| Runs.aloadN d25_34 rfl <| Runs.getA d25_35 fA_15 w41 (by decide) <| Runs.iload d25_38 rfl <| Runs.iconst d25_40 ci_4 <| Runs.imul d25_41 <| Runs.iloadN d25_42 rfl <| Runs.iconst d25_43 ci_4 <| Runs.irem d25_44 (by decide) <| Runs.iadd d25_45 <| ?_
    refine chk_el hf fun hi7 hf => ?_
    refine Runs.ialoadA d25_46 fA_15 (by decide) hi7 <| Runs.istore (P' := [vr a, vi i1, vi i2, vi r1, vi (i2 / (4 : Int32)), vi r4, vi (gA q5 15 ((r4 * (4 : Int32)) + (i2 % (4 : Int32))))]) d25_47 (by decide) rfl <| Runs.aloadN d25_49 rfl <| Runs.iloadN d25_50 rfl <| Runs.iload d25_51 rfl <| ?_
    refine bind_el hf fun q8 hg9 hf => ?_
    refine Runs.callP (N := B11) (W := 0) (as := [.int i1, .int (i2 / (4 : Int32))]) (S' := []) d25_53 w102 w103 w104 rfl cw11 ar11 rk25_11_0 (by decide) rfl rfl (X_recordReference_pay hg9) <| ans0 <| Runs.aloadN d25_56 rfl <| Runs.iloadN d25_57 rfl <| ?_
    refine bind_el hf fun q10 hg11 hf => ?_
    obtain rfl := Option.some.inj hf
    exact Runs.callP (N := B13) (W := 0) (as := [.int i1]) (S' := []) d25_58 w110 w111 w112 rfl cw13 ar13 rk25_13_0 (by decide) rfl rfl (X_loadControl_pay hg11) <| ans0 <| Runs.aloadN d25_61 rfl <| Runs.iconst d25_62 ci_0 <| Runs.putI d25_63 w59 fS_4 (Or.inl w60) <| Runs.iload d25_66 rfl <| Runs.i2l d25_68 <| Runs.retJ d25_69 rfl ⟨by decide, by decide⟩ ⟨rfl, rfl⟩
  · refine Runs.ifN d25_8 (feq hc3).1 <| ?_
    obtain rfl := Option.some.inj hf
    exact Runs.aloadN d25_11 rfl <| Runs.iloadN d25_12 rfl <| Runs.putI d25_13 w59 fS_4 (Or.inl w60) <| Runs.ldc2 d25_16 w174 <| Runs.retJ d25_19 rfl ⟨by decide, by decide⟩ ⟨rfl, rfl⟩
theorem X_load_pay {C : Ctx} {top : Nat} {a : Nat} {H : List (Nat × Nat × Rec)} {res : Int64 × Rec} {NF : Nat} {ob : Rec} {i1 : Int32} {i2 : Int32} (hf : X_load NF ob i1 i2 = some res) : Pays C B25 [.ref a, .int i1, .int i2] (top, (a, 18, ob) :: H) (Ans (some (.long res.1)) (top, (a, 18, res.2) :: H)) :=
  Pays.of pnK (Nat.le_of_ble_eq_true rfl) (P := [vr a, vi i1, vi i2, vn, vn, vn, vn]) 4 rfl (X_load_p ob i1 i2 hf)
def L_val (i0 : Int32) (i1 : Int32) : Option (Int32) :=
  some (((i0 * (256 : Int32)) + i1) + (1 : Int32))
set_option maxRecDepth 65536 in
set_option maxHeartbeats 4000000 in
theorem L_val_p {C : Ctx} {G : AH} {res : Int32} (i0 : Int32) (i1 : Int32) (hf : L_val i0 i1 = some res) : Runs C B5 0 0 0 [vi i0, vi i1] [] G (Ans (some (.int res)) G) := by
  delta L_val at hf
  obtain rfl := Option.some.inj hf
  exact Runs.iloadN d5_0 rfl <| Runs.sipush d5_1 cs_256 <| Runs.imul d5_4 <| Runs.iloadN d5_5 rfl <| Runs.iadd d5_6 <| Runs.iconst d5_7 ci_1 <| Runs.iadd d5_8 <| Runs.retI d5_9 rfl ⟨by decide, by decide⟩ ⟨rfl, rfl⟩
theorem L_val_pay {C : Ctx} {G : AH} {res : Int32} {i0 : Int32} {i1 : Int32} (hf : L_val i0 i1 = some res) : Pays C B5 [.int i0, .int i1] G (Ans (some (.int res)) G) :=
  Pays.of pnL (Nat.le_of_ble_eq_true rfl) (P := [vi i0, vi i1]) 0 rfl (L_val_p i0 i1 hf)
def X_store (NF : Nat) (ob : Rec) (i1 : Int32) (i2 : Int32) (i3 : Int32) : Option (Int32 × Rec) :=
  (X_check ob i1 i2).bind fun r1 =>
  if r1 = (0 : Int32) then
    bind2 (X_ensureResident NF ob i1 (i2 / (4 : Int32))) fun r4 q5 =>
    chk (128 : Int32) ((r4 * (4 : Int32)) + (i2 % (4 : Int32))) <|
    chk (32 : Int32) r4 <|
    (X_recordReference (sA (sA q5 15 ((r4 * (4 : Int32)) + (i2 % (4 : Int32))) i3) 14 r4 (1 : Int32)) i1 (i2 / (4 : Int32))).bind fun q9 =>
    (X_loadControl NF q9 i1).bind fun q11 =>
    some ((0 : Int32), (sI q11 4 (0 : Int32)))
  else
    some (r1, (sI ob 4 r1))
set_option maxRecDepth 65536 in
set_option maxHeartbeats 4000000 in
theorem X_store_p {C : Ctx} {top : Nat} {a : Nat} {H : List (Nat × Nat × Rec)} {res : Int32 × Rec} {NF : Nat} (ob : Rec) (i1 : Int32) (i2 : Int32) (i3 : Int32) (hf : X_store NF ob i1 i2 i3 = some res) : Runs C B6 0 0 0 [vr a, vi i1, vi i2, vi i3, vn, vn, vn] [] (top, (a, 18, ob) :: H) (Ans (some (.int res.1)) (top, (a, 18, res.2) :: H)) := by
  delta X_store at hf
  refine Runs.aloadN d6_0 rfl <| Runs.iloadN d6_1 rfl <| Runs.iloadN d6_2 rfl <| ?_
  refine bind_el hf fun r1 hg2 hf => ?_
  refine Runs.callP (N := B7) (W := 0) (as := [.int i1, .int i2]) (S' := []) d6_3 w86 w87 w88 rfl cw7 ar7 rk6_7_0 (by decide) rfl rfl (X_check_pay hg2) <| ans1 <| Runs.istore (P' := [vr a, vi i1, vi i2, vi i3, vi r1, vn, vn]) d6_6 (by decide) rfl <| Runs.iload d6_8 rfl <| ?_
  refine ite_el hf (fun hc3 hf => ?_) (fun hc3 hf => ?_)
  · refine Runs.ifY (pc' := 22) d6_10 (teq hc3).1 (by decide) <| ?_
    refine Runs.iloadN d6_22 rfl <| Runs.iconst d6_23 ci_4 <| Runs.idiv d6_24 (by decide) <| Runs.istore (P' := [vr a, vi i1, vi i2, vi i3, vi r1, vi (i2 / (4 : Int32)), vn]) d6_25 (by decide) rfl <| Runs.aloadN d6_27 rfl <| Runs.iloadN d6_28 rfl <| Runs.iload d6_29 rfl <| ?_
    refine bind2_el hf fun r4 q5 hg6 hf => ?_
    refine Runs.callP (N := B8) (W := 0) (as := [.int i1, .int (i2 / (4 : Int32))]) (S' := []) d6_31 w90 w91 w92 rfl cw8 ar8 rk6_8_0 (by decide) rfl rfl (X_ensureResident_pay hg6) <| ans1 <| Runs.istore (P' := [vr a, vi i1, vi i2, vi i3, vi r1, vi (i2 / (4 : Int32)), vi r4]) d6_34 (by decide) rfl <| Runs.aloadN d6_36 rfl <| Runs.getA d6_37 fA_15 w41 (by decide) <| Runs.iload d6_40 rfl <| Runs.iconst d6_42 ci_4 <| Runs.imul d6_43 <| Runs.iloadN d6_44 rfl <| Runs.iconst d6_45 ci_4 <| Runs.irem d6_46 (by decide) <| Runs.iadd d6_47 <| Runs.iloadN d6_48 rfl <| ?_
    refine chk_el hf fun hi7 hf => ?_
    refine Runs.iastoreA d6_49 fA_15 (by decide) hi7 <| Runs.aloadN d6_50 rfl <| Runs.getA d6_51 fA_14 w39 (by decide) <| Runs.iload d6_54 rfl <| Runs.iconst d6_56 ci_1 <| ?_
    refine chk_el hf fun hi8 hf => ?_
    refine Runs.bastoreA (y := (1 : Int32)) d6_57 fA_14 (by decide) hi8 rfl <| Runs.aloadN d6_58 rfl <| Runs.iloadN d6_59 rfl <| Runs.iload d6_60 rfl <| ?_
    refine bind_el hf fun q9 hg10 hf => ?_
    refine Runs.callP (N := B11) (W := 0) (as := [.int i1, .int (i2 / (4 : Int32))]) (S' := []) d6_62 w102 w103 w104 rfl cw11 ar11 rk6_11_0 (by decide) rfl rfl (X_recordReference_pay hg10) <| ans0 <| Runs.aloadN d6_65 rfl <| Runs.iloadN d6_66 rfl <| ?_
    refine bind_el hf fun q11 hg12 hf => ?_
    obtain rfl := Option.some.inj hf
    exact Runs.callP (N := B13) (W := 0) (as := [.int i1]) (S' := []) d6_67 w110 w111 w112 rfl cw13 ar13 rk6_13_0 (by decide) rfl rfl (X_loadControl_pay hg12) <| ans0 <| Runs.aloadN d6_70 rfl <| Runs.iconst d6_71 ci_0 <| Runs.putI d6_72 w59 fS_4 (Or.inl w60) <| Runs.iconst d6_75 ci_0 <| Runs.retI d6_76 rfl ⟨by decide, by decide⟩ ⟨rfl, rfl⟩
  · refine Runs.ifN d6_10 (feq hc3).1 <| ?_
    obtain rfl := Option.some.inj hf
    exact Runs.aloadN d6_13 rfl <| Runs.iload d6_14 rfl <| Runs.putI d6_16 w59 fS_4 (Or.inl w60) <| Runs.iload d6_19 rfl <| Runs.retI d6_21 rfl ⟨by decide, by decide⟩ ⟨rfl, rfl⟩
theorem X_store_pay {C : Ctx} {top : Nat} {a : Nat} {H : List (Nat × Nat × Rec)} {res : Int32 × Rec} {NF : Nat} {ob : Rec} {i1 : Int32} {i2 : Int32} {i3 : Int32} (hf : X_store NF ob i1 i2 i3 = some res) : Pays C B6 [.ref a, .int i1, .int i2, .int i3] (top, (a, 18, ob) :: H) (Ans (some (.int res.1)) (top, (a, 18, res.2) :: H)) :=
  Pays.of pnK (Nat.le_of_ble_eq_true rfl) (P := [vr a, vi i1, vi i2, vi i3, vn, vn, vn]) 3 rfl (X_store_p ob i1 i2 i3 hf)
def X_inWorkingSet (ob : Rec) (i1 : Int32) (i2 : Int32) : Option (Int32) :=
  (X_validPid ob i1).bind fun r1 =>
  if r1 = (0 : Int32) then
    some (0 : Int32)
  else
    if i2 < (0 : Int32) then
      some (0 : Int32)
    else
      if i2 < (gI ob 1) then
        chk (64 : Int32) ((i1 * (16 : Int32)) + i2) <|
        if (0 : Int32) < (gA ob 7 ((i1 * (16 : Int32)) + i2)) then
          some (1 : Int32)
        else
          some (0 : Int32)
      else
        some (0 : Int32)
set_option maxRecDepth 65536 in
set_option maxHeartbeats 4000000 in
theorem X_inWorkingSet_p {C : Ctx} {top : Nat} {a : Nat} {H : List (Nat × Nat × Rec)} {ob : Rec} {res : Int32} (i1 : Int32) (i2 : Int32) (hf : X_inWorkingSet ob i1 i2 = some res) : Runs C B15 0 0 0 [vr a, vi i1, vi i2] [] (top, (a, 18, ob) :: H) (Ans (some (.int res)) (top, (a, 18, ob) :: H)) := by
  delta X_inWorkingSet at hf
  refine Runs.aloadN d15_0 rfl <| Runs.iloadN d15_1 rfl <| ?_
  refine bind_el hf fun r1 hg2 hf => ?_
  refine Runs.callP (N := B4) (W := 0) (as := [.int i1]) (S' := []) d15_2 w73 w74 w75 rfl cw4 ar4 rk15_4_0 (by decide) rfl rfl (X_validPid_pay hg2) <| ans1 <| ?_
  refine ite_el hf (fun hc3 hf => ?_) (fun hc3 hf => ?_)
  · refine Runs.ifY (pc' := 20) d15_5 (teq hc3).1 (by decide) <| ?_
    obtain rfl := Option.some.inj hf
    exact Runs.iconst d15_20 ci_0 <| Runs.retZ (y := (0 : Int32)) d15_21 rfl ⟨by decide, by decide⟩ rfl ⟨rfl, rfl⟩
  · refine Runs.ifN d15_5 (feq hc3).1 <| ?_
    refine Runs.iloadN d15_8 rfl <| ?_
    refine ite_el hf (fun hc4 hf => ?_) (fun hc4 hf => ?_)
    · refine Runs.ifY (pc' := 20) d15_9 (tlt hc4).1 (by decide) <| ?_
      obtain rfl := Option.some.inj hf
      exact Runs.iconst d15_20 ci_0 <| Runs.retZ (y := (0 : Int32)) d15_21 rfl ⟨by decide, by decide⟩ rfl ⟨rfl, rfl⟩
    · refine Runs.ifN d15_9 (flt hc4).1 <| ?_
      refine Runs.iloadN d15_12 rfl <| Runs.aloadN d15_13 rfl <| Runs.getI d15_14 w53 fS_1 <| ?_
      refine ite_el hf (fun hc5 hf => ?_) (fun hc5 hf => ?_)
      · refine Runs.icY (pc' := 22) d15_17 (tlt hc5).1 (by decide) <| ?_
        refine Runs.aloadN d15_22 rfl <| Runs.getA d15_23 fA_7 w25 (by decide) <| Runs.iloadN d15_26 rfl <| Runs.bipush d15_27 cb_16 <| Runs.imul d15_29 <| Runs.iloadN d15_30 rfl <| Runs.iadd d15_31 <| ?_
        refine chk_el hf fun hi6 hf => ?_
        refine Runs.ialoadA d15_32 fA_7 (by decide) hi6 <| ?_
        refine ite_el hf (fun hc7 hf => ?_) (fun hc7 hf => ?_)
        · refine Runs.ifN d15_33 (tlt hc7).2.2.2 <| ?_
          obtain rfl := Option.some.inj hf
          exact Runs.iconst d15_36 ci_1 <| Runs.goto (pc' := 41) d15_37 (by decide) <| Runs.retZ (y := (1 : Int32)) d15_41 rfl ⟨by decide, by decide⟩ rfl ⟨rfl, rfl⟩
        · refine Runs.ifY (pc' := 40) d15_33 (flt hc7).2.2.2 (by decide) <| ?_
          obtain rfl := Option.some.inj hf
          exact Runs.iconst d15_40 ci_0 <| Runs.retZ (y := (0 : Int32)) d15_41 rfl ⟨by decide, by decide⟩ rfl ⟨rfl, rfl⟩
      · refine Runs.icN d15_17 (flt hc5).1 <| ?_
        obtain rfl := Option.some.inj hf
        exact Runs.iconst d15_20 ci_0 <| Runs.retZ (y := (0 : Int32)) d15_21 rfl ⟨by decide, by decide⟩ rfl ⟨rfl, rfl⟩
theorem X_inWorkingSet_pay {C : Ctx} {top : Nat} {a : Nat} {H : List (Nat × Nat × Rec)} {ob : Rec} {res : Int32} {i1 : Int32} {i2 : Int32} (hf : X_inWorkingSet ob i1 i2 = some res) : Pays C B15 [.ref a, .int i1, .int i2] (top, (a, 18, ob) :: H) (Ans (some (.int res)) (top, (a, 18, ob) :: H)) :=
  Pays.of pnK (Nat.le_of_ble_eq_true rfl) (P := [vr a, vi i1, vi i2]) 0 rfl (X_inWorkingSet_p i1 i2 hf)
def X_lastStatus (ob : Rec) : Option (Int32) :=
  some (gI ob 4)
set_option maxRecDepth 65536 in
set_option maxHeartbeats 4000000 in
theorem X_lastStatus_p {C : Ctx} {top : Nat} {a : Nat} {H : List (Nat × Nat × Rec)} {ob : Rec} {res : Int32} (hf : X_lastStatus ob = some res) : Runs C B16 0 0 0 [vr a] [] (top, (a, 18, ob) :: H) (Ans (some (.int res)) (top, (a, 18, ob) :: H)) := by
  delta X_lastStatus at hf
  obtain rfl := Option.some.inj hf
  exact Runs.aloadN d16_0 rfl <| Runs.getI d16_1 w59 fS_4 <| Runs.retI d16_4 rfl ⟨by decide, by decide⟩ ⟨rfl, rfl⟩
theorem X_lastStatus_pay {C : Ctx} {top : Nat} {a : Nat} {H : List (Nat × Nat × Rec)} {ob : Rec} {res : Int32} (hf : X_lastStatus ob = some res) : Pays C B16 [.ref a] (top, (a, 18, ob) :: H) (Ans (some (.int res)) (top, (a, 18, ob) :: H)) :=
  Pays.of pnK (Nat.le_of_ble_eq_true rfl) (P := [vr a]) 0 rfl (X_lastStatus_p hf)
def X_workingSetSize (ob : Rec) (i1 : Int32) : Option (Int32) :=
  (X_validPid ob i1).bind fun r1 =>
  if r1 = (0 : Int32) then
    some (0 : Int32)
  else
    chk (4 : Int32) i1 <|
    some (gA ob 4 i1)
set_option maxRecDepth 65536 in
set_option maxHeartbeats 4000000 in
theorem X_workingSetSize_p {C : Ctx} {top : Nat} {a : Nat} {H : List (Nat × Nat × Rec)} {ob : Rec} {res : Int32} (i1 : Int32) (hf : X_workingSetSize ob i1 = some res) : Runs C B17 0 0 0 [vr a, vi i1] [] (top, (a, 18, ob) :: H) (Ans (some (.int res)) (top, (a, 18, ob) :: H)) := by
  delta X_workingSetSize at hf
  refine Runs.aloadN d17_0 rfl <| Runs.iloadN d17_1 rfl <| ?_
  refine bind_el hf fun r1 hg2 hf => ?_
  refine Runs.callP (N := B4) (W := 0) (as := [.int i1]) (S' := []) d17_2 w73 w74 w75 rfl cw4 ar4 rk17_4_0 (by decide) rfl rfl (X_validPid_pay hg2) <| ans1 <| ?_
  refine ite_el hf (fun hc3 hf => ?_) (fun hc3 hf => ?_)
  · refine Runs.ifN d17_5 (teq hc3).2 <| ?_
    obtain rfl := Option.some.inj hf
    exact Runs.iconst d17_8 ci_0 <| Runs.retI d17_9 rfl ⟨by decide, by decide⟩ ⟨rfl, rfl⟩
  · refine Runs.ifY (pc' := 10) d17_5 (feq hc3).2 (by decide) <| ?_
    refine Runs.aloadN d17_10 rfl <| Runs.getA d17_11 fA_4 w19 (by decide) <| Runs.iloadN d17_14 rfl <| ?_
    refine chk_el hf fun hi4 hf => ?_
    obtain rfl := Option.some.inj hf
    exact Runs.ialoadA d17_15 fA_4 (by decide) hi4 <| Runs.retI d17_16 rfl ⟨by decide, by decide⟩ ⟨rfl, rfl⟩
theorem X_workingSetSize_pay {C : Ctx} {top : Nat} {a : Nat} {H : List (Nat × Nat × Rec)} {ob : Rec} {res : Int32} {i1 : Int32} (hf : X_workingSetSize ob i1 = some res) : Pays C B17 [.ref a, .int i1] (top, (a, 18, ob) :: H) (Ans (some (.int res)) (top, (a, 18, ob) :: H)) :=
  Pays.of pnK (Nat.le_of_ble_eq_true rfl) (P := [vr a, vi i1]) 0 rfl (X_workingSetSize_p i1 hf)
def X_suspensions (ob : Rec) : Option (Int32) :=
  some (gI ob 5)
set_option maxRecDepth 65536 in
set_option maxHeartbeats 4000000 in
theorem X_suspensions_p {C : Ctx} {top : Nat} {a : Nat} {H : List (Nat × Nat × Rec)} {ob : Rec} {res : Int32} (hf : X_suspensions ob = some res) : Runs C B18 0 0 0 [vr a] [] (top, (a, 18, ob) :: H) (Ans (some (.int res)) (top, (a, 18, ob) :: H)) := by
  delta X_suspensions at hf
  obtain rfl := Option.some.inj hf
  exact Runs.aloadN d18_0 rfl <| Runs.getI d18_1 w61 fS_5 <| Runs.retI d18_4 rfl ⟨by decide, by decide⟩ ⟨rfl, rfl⟩
theorem X_suspensions_pay {C : Ctx} {top : Nat} {a : Nat} {H : List (Nat × Nat × Rec)} {ob : Rec} {res : Int32} (hf : X_suspensions ob = some res) : Pays C B18 [.ref a] (top, (a, 18, ob) :: H) (Ans (some (.int res)) (top, (a, 18, ob) :: H)) :=
  Pays.of pnK (Nat.le_of_ble_eq_true rfl) (P := [vr a]) 0 rfl (X_suspensions_p hf)
def X_readmissions (ob : Rec) : Option (Int32) :=
  some (gI ob 6)
set_option maxRecDepth 65536 in
set_option maxHeartbeats 4000000 in
theorem X_readmissions_p {C : Ctx} {top : Nat} {a : Nat} {H : List (Nat × Nat × Rec)} {ob : Rec} {res : Int32} (hf : X_readmissions ob = some res) : Runs C B19 0 0 0 [vr a] [] (top, (a, 18, ob) :: H) (Ans (some (.int res)) (top, (a, 18, ob) :: H)) := by
  delta X_readmissions at hf
  obtain rfl := Option.some.inj hf
  exact Runs.aloadN d19_0 rfl <| Runs.getI d19_1 w63 fS_6 <| Runs.retI d19_4 rfl ⟨by decide, by decide⟩ ⟨rfl, rfl⟩
theorem X_readmissions_pay {C : Ctx} {top : Nat} {a : Nat} {H : List (Nat × Nat × Rec)} {ob : Rec} {res : Int32} (hf : X_readmissions ob = some res) : Pays C B19 [.ref a] (top, (a, 18, ob) :: H) (Ans (some (.int res)) (top, (a, 18, ob) :: H)) :=
  Pays.of pnK (Nat.le_of_ble_eq_true rfl) (P := [vr a]) 0 rfl (X_readmissions_p hf)
def X_touchedPages (ob : Rec) (i1 : Int32) : Option (Int32) :=
  (X_validPid ob i1).bind fun r1 =>
  if r1 = (0 : Int32) then
    some (0 : Int32)
  else
    chk (4 : Int32) i1 <|
    some (gA ob 5 i1)
set_option maxRecDepth 65536 in
set_option maxHeartbeats 4000000 in
theorem X_touchedPages_p {C : Ctx} {top : Nat} {a : Nat} {H : List (Nat × Nat × Rec)} {ob : Rec} {res : Int32} (i1 : Int32) (hf : X_touchedPages ob i1 = some res) : Runs C B21 0 0 0 [vr a, vi i1] [] (top, (a, 18, ob) :: H) (Ans (some (.int res)) (top, (a, 18, ob) :: H)) := by
  delta X_touchedPages at hf
  refine Runs.aloadN d21_0 rfl <| Runs.iloadN d21_1 rfl <| ?_
  refine bind_el hf fun r1 hg2 hf => ?_
  refine Runs.callP (N := B4) (W := 0) (as := [.int i1]) (S' := []) d21_2 w73 w74 w75 rfl cw4 ar4 rk21_4_0 (by decide) rfl rfl (X_validPid_pay hg2) <| ans1 <| ?_
  refine ite_el hf (fun hc3 hf => ?_) (fun hc3 hf => ?_)
  · refine Runs.ifN d21_5 (teq hc3).2 <| ?_
    obtain rfl := Option.some.inj hf
    exact Runs.iconst d21_8 ci_0 <| Runs.retI d21_9 rfl ⟨by decide, by decide⟩ ⟨rfl, rfl⟩
  · refine Runs.ifY (pc' := 10) d21_5 (feq hc3).2 (by decide) <| ?_
    refine Runs.aloadN d21_10 rfl <| Runs.getA d21_11 fA_5 w21 (by decide) <| Runs.iloadN d21_14 rfl <| ?_
    refine chk_el hf fun hi4 hf => ?_
    obtain rfl := Option.some.inj hf
    exact Runs.ialoadA d21_15 fA_5 (by decide) hi4 <| Runs.retI d21_16 rfl ⟨by decide, by decide⟩ ⟨rfl, rfl⟩
theorem X_touchedPages_pay {C : Ctx} {top : Nat} {a : Nat} {H : List (Nat × Nat × Rec)} {ob : Rec} {res : Int32} {i1 : Int32} (hf : X_touchedPages ob i1 = some res) : Pays C B21 [.ref a, .int i1] (top, (a, 18, ob) :: H) (Ans (some (.int res)) (top, (a, 18, ob) :: H)) :=
  Pays.of pnK (Nat.le_of_ble_eq_true rfl) (P := [vr a, vi i1]) 0 rfl (X_touchedPages_p i1 hf)
def X_virtualTime (ob : Rec) (i1 : Int32) : Option (Int32) :=
  (X_validPid ob i1).bind fun r1 =>
  if r1 = (0 : Int32) then
    some (0 : Int32)
  else
    chk (4 : Int32) i1 <|
    some (gA ob 1 i1)
set_option maxRecDepth 65536 in
set_option maxHeartbeats 4000000 in
theorem X_virtualTime_p {C : Ctx} {top : Nat} {a : Nat} {H : List (Nat × Nat × Rec)} {ob : Rec} {res : Int32} (i1 : Int32) (hf : X_virtualTime ob i1 = some res) : Runs C B22 0 0 0 [vr a, vi i1] [] (top, (a, 18, ob) :: H) (Ans (some (.int res)) (top, (a, 18, ob) :: H)) := by
  delta X_virtualTime at hf
  refine Runs.aloadN d22_0 rfl <| Runs.iloadN d22_1 rfl <| ?_
  refine bind_el hf fun r1 hg2 hf => ?_
  refine Runs.callP (N := B4) (W := 0) (as := [.int i1]) (S' := []) d22_2 w73 w74 w75 rfl cw4 ar4 rk22_4_0 (by decide) rfl rfl (X_validPid_pay hg2) <| ans1 <| ?_
  refine ite_el hf (fun hc3 hf => ?_) (fun hc3 hf => ?_)
  · refine Runs.ifN d22_5 (teq hc3).2 <| ?_
    obtain rfl := Option.some.inj hf
    exact Runs.iconst d22_8 ci_0 <| Runs.retI d22_9 rfl ⟨by decide, by decide⟩ ⟨rfl, rfl⟩
  · refine Runs.ifY (pc' := 10) d22_5 (feq hc3).2 (by decide) <| ?_
    refine Runs.aloadN d22_10 rfl <| Runs.getA d22_11 fA_1 w13 (by decide) <| Runs.iloadN d22_14 rfl <| ?_
    refine chk_el hf fun hi4 hf => ?_
    obtain rfl := Option.some.inj hf
    exact Runs.ialoadA d22_15 fA_1 (by decide) hi4 <| Runs.retI d22_16 rfl ⟨by decide, by decide⟩ ⟨rfl, rfl⟩
theorem X_virtualTime_pay {C : Ctx} {top : Nat} {a : Nat} {H : List (Nat × Nat × Rec)} {ob : Rec} {res : Int32} {i1 : Int32} (hf : X_virtualTime ob i1 = some res) : Pays C B22 [.ref a, .int i1] (top, (a, 18, ob) :: H) (Ans (some (.int res)) (top, (a, 18, ob) :: H)) :=
  Pays.of pnK (Nat.le_of_ble_eq_true rfl) (P := [vr a, vi i1]) 0 rfl (X_virtualTime_p i1 hf)
def X_readWord (ob : Rec) (i1 : Int32) (i2 : Int32) : Option (Int32) :=
  chk (64 : Int32) i1 <|
  if (gA ob 9 i1) < (0 : Int32) then
    chk (64 : Int32) i1 <|
    if (gA ob 10 i1) < (0 : Int32) then
      some (0 : Int32)
    else
      chk (256 : Int32) (((gA ob 10 i1) * (4 : Int32)) + i2) <|
      some (gA ob 17 (((gA ob 10 i1) * (4 : Int32)) + i2))
  else
    chk (128 : Int32) (((gA ob 9 i1) * (4 : Int32)) + i2) <|
    some (gA ob 15 (((gA ob 9 i1) * (4 : Int32)) + i2))
set_option maxRecDepth 65536 in
set_option maxHeartbeats 4000000 in
theorem X_readWord_p {C : Ctx} {top : Nat} {a : Nat} {H : List (Nat × Nat × Rec)} {ob : Rec} {res : Int32} (i1 : Int32) (i2 : Int32) (hf : X_readWord ob i1 i2 = some res) : Runs C B24 0 0 0 [vr a, vi i1, vi i2, vn, vn] [] (top, (a, 18, ob) :: H) (Ans (some (.int res)) (top, (a, 18, ob) :: H)) := by
  delta X_readWord at hf
  refine Runs.aloadN d24_0 rfl <| Runs.getA d24_1 fA_9 w29 (by decide) <| Runs.iloadN d24_4 rfl <| ?_
  refine chk_el hf fun hi1 hf => ?_
  refine Runs.ialoadA d24_5 fA_9 (by decide) hi1 <| Runs.istoreN (P' := [vr a, vi i1, vi i2, vi (gA ob 9 i1), vn]) d24_6 (by decide) rfl <| Runs.iloadN d24_7 rfl <| ?_
  refine ite_el hf (fun hc2 hf => ?_) (fun hc2 hf => ?_)
  · refine Runs.ifY (pc' := 22) d24_8 (tlt hc2).1 (by decide) <| ?_
    refine Runs.aloadN d24_22 rfl <| Runs.getA d24_23 fA_10 w31 (by decide) <| Runs.iloadN d24_26 rfl <| ?_
    refine chk_el hf fun hi3 hf => ?_
    refine Runs.ialoadA d24_27 fA_10 (by decide) hi3 <| Runs.istore (P' := [vr a, vi i1, vi i2, vi (gA ob 9 i1), vi (gA ob 10 i1)]) d24_28 (by decide) rfl <| Runs.iload d24_30 rfl <| ?_
    refine ite_el hf (fun hc4 hf => ?_) (fun hc4 hf => ?_)
    · refine Runs.ifY (pc' := 47) d24_32 (tlt hc4).1 (by decide) <| ?_
      obtain rfl := Option.some.inj hf
      exact Runs.iconst d24_47 ci_0 <| Runs.retI d24_48 rfl ⟨by decide, by decide⟩ ⟨rfl, rfl⟩
    · refine Runs.ifN d24_32 (flt hc4).1 <| ?_
      refine Runs.aloadN d24_35 rfl <| Runs.getA d24_36 fA_17 w45 (by decide) <| Runs.iload d24_39 rfl <| Runs.iconst d24_41 ci_4 <| Runs.imul d24_42 <| Runs.iloadN d24_43 rfl <| Runs.iadd d24_44 <| ?_
      refine chk_el hf fun hi5 hf => ?_
      obtain rfl := Option.some.inj hf
      exact Runs.ialoadA d24_45 fA_17 (by decide) hi5 <| Runs.retI d24_46 rfl ⟨by decide, by decide⟩ ⟨rfl, rfl⟩
  · refine Runs.ifN d24_8 (flt hc2).1 <| ?_
    refine Runs.aloadN d24_11 rfl <| Runs.getA d24_12 fA_15 w41 (by decide) <| Runs.iloadN d24_15 rfl <| Runs.iconst d24_16 ci_4 <| Runs.imul d24_17 <| Runs.iloadN d24_18 rfl <| Runs.iadd d24_19 <| ?_
    refine chk_el hf fun hi6 hf => ?_
    obtain rfl := Option.some.inj hf
    exact Runs.ialoadA d24_20 fA_15 (by decide) hi6 <| Runs.retI d24_21 rfl ⟨by decide, by decide⟩ ⟨rfl, rfl⟩
theorem X_readWord_pay {C : Ctx} {top : Nat} {a : Nat} {H : List (Nat × Nat × Rec)} {ob : Rec} {res : Int32} {i1 : Int32} {i2 : Int32} (hf : X_readWord ob i1 i2 = some res) : Pays C B24 [.ref a, .int i1, .int i2] (top, (a, 18, ob) :: H) (Ans (some (.int res)) (top, (a, 18, ob) :: H)) :=
  Pays.of pnK (Nat.le_of_ble_eq_true rfl) (P := [vr a, vi i1, vi i2, vn, vn]) 2 rfl (X_readWord_p i1 i2 hf)
def X_memorySum_w33 (NF : Nat) (ob : Rec) (k14 : Int32 → Int32 → Int32 → Option (Int32)) (k33 : Int32 → Int32 → Int32 → Int32 → Int32 → Option (Int32)) (i1 : Int32) (i2 : Int32) (i3 : Int32) (i4 : Int32) (i5 : Int32) : Option (Int32) :=
  if i5 < (4 : Int32) then
    (X_readWord ob i4 i5).bind fun r3 =>
    k33 i1 (i2 + r3) i3 i4 (i5 + (1 : Int32))
  else
    k14 i1 i2 (i3 + (1 : Int32))
def X_memorySum_l33 (NF : Nat) (ob : Rec) (k14 : Int32 → Int32 → Int32 → Option (Int32)) : Nat → Int32 → Int32 → Int32 → Int32 → Int32 → Option (Int32)
  | 0, _, _, _, _, _ => none
  | n + 1, i1, i2, i3, i4, i5 => X_memorySum_w33 NF ob k14 (X_memorySum_l33 NF ob k14 n) i1 i2 i3 i4 i5
set_option maxRecDepth 65536 in
set_option maxHeartbeats 4000000 in
theorem X_memorySum_w33_p {C : Ctx} {top : Nat} {a : Nat} {H : List (Nat × Nat × Rec)} {ob : Rec} {res : Int32} {NF : Nat} (k14 : Int32 → Int32 → Int32 → Option (Int32)) (hk14 : ∀ (i1 : Int32) (i2 : Int32) (i3 : Int32), k14 i1 i2 i3 = some res → Runs C B23 0 0 14 [vr a, vi i1, vi i2, vi i3, vn, vn] [] (top, (a, 18, ob) :: H) (Ans (some (.int res)) (top, (a, 18, ob) :: H))) (k33 : Int32 → Int32 → Int32 → Int32 → Int32 → Option (Int32)) (hk33 : ∀ (i1 : Int32) (i2 : Int32) (i3 : Int32) (i4 : Int32) (i5 : Int32), k33 i1 i2 i3 i4 i5 = some res → Runs C B23 0 0 33 [vr a, vi i1, vi i2, vi i3, vi i4, vi i5] [] (top, (a, 18, ob) :: H) (Ans (some (.int res)) (top, (a, 18, ob) :: H))) (i1 : Int32) (i2 : Int32) (i3 : Int32) (i4 : Int32) (i5 : Int32) (hf : X_memorySum_w33 NF ob k14 k33 i1 i2 i3 i4 i5 = some res) : Runs C B23 0 0 33 [vr a, vi i1, vi i2, vi i3, vi i4, vi i5] [] (top, (a, 18, ob) :: H) (Ans (some (.int res)) (top, (a, 18, ob) :: H)) := by
  delta X_memorySum_w33 at hf
  refine Runs.iload d23_33 rfl <| Runs.iconst d23_35 ci_4 <| ?_
  refine ite_el hf (fun hc2 hf => ?_) (fun hc2 hf => ?_)
  · refine Runs.icN d23_36 (tlt hc2).2.1 <| ?_
    refine Runs.iloadN d23_39 rfl <| Runs.aloadN d23_40 rfl <| Runs.iload d23_41 rfl <| Runs.iload d23_43 rfl <| ?_
    refine bind_el hf fun r3 hg4 hf => ?_
    exact Runs.callP (N := B24) (W := 1) (as := [.int i4, .int i5]) (S' := [.int i2]) d23_45 w164 w165 w166 rfl cw24 ar24 rk23_24_1 (by decide) rfl rfl (X_readWord_pay hg4) <| ans1 <| Runs.iadd d23_48 <| Runs.istoreN (P' := [vr a, vi i1, vi (i2 + r3), vi i3, vi i4, vi i5]) d23_49 (by decide) rfl <| Runs.iinc (P' := [vr a, vi i1, vi (i2 + r3), vi i3, vi i4, vi (i5 + (1 : Int32))]) d23_50 ci_1 rfl (by decide) rfl <| Runs.goto (pc' := 33) d23_53 (by decide) <| hk33 i1 (i2 + r3) i3 i4 (i5 + (1 : Int32)) hf
  · refine Runs.icY (pc' := 56) d23_36 (flt hc2).2.1 (by decide) <| ?_
    exact Runs.iinc (P' := [vr a, vi i1, vi i2, vi (i3 + (1 : Int32)), vi i4, vi i5]) d23_56 ci_1 rfl (by decide) rfl <| Runs.goto (pc' := 14) d23_59 (by decide) <| Runs.forget [true, true, true, true, false, false] rfl <| hk14 i1 i2 (i3 + (1 : Int32)) hf
theorem X_memorySum_l33_p {C : Ctx} {top : Nat} {a : Nat} {H : List (Nat × Nat × Rec)} {ob : Rec} {res : Int32} {NF : Nat} (k14 : Int32 → Int32 → Int32 → Option (Int32)) (hk14 : ∀ (i1 : Int32) (i2 : Int32) (i3 : Int32), k14 i1 i2 i3 = some res → Runs C B23 0 0 14 [vr a, vi i1, vi i2, vi i3, vn, vn] [] (top, (a, 18, ob) :: H) (Ans (some (.int res)) (top, (a, 18, ob) :: H))) (n : Nat) (i1 : Int32) (i2 : Int32) (i3 : Int32) (i4 : Int32) (i5 : Int32) (hf : X_memorySum_l33 NF ob k14 n i1 i2 i3 i4 i5 = some res) : Runs C B23 0 0 33 [vr a, vi i1, vi i2, vi i3, vi i4, vi i5] [] (top, (a, 18, ob) :: H) (Ans (some (.int res)) (top, (a, 18, ob) :: H)) := by
  induction n generalizing i1 i2 i3 i4 i5 with
  | zero => cases (show (none : Option (Int32)) = some res from hf)
  | succ n ih => exact X_memorySum_w33_p k14 hk14 (X_memorySum_l33 NF ob k14 n) (fun i1 i2 i3 i4 i5 h => ih _ _ _ _ _ h) i1 i2 i3 i4 i5 hf
def X_memorySum_w14 (NF : Nat) (ob : Rec) (k14 : Int32 → Int32 → Int32 → Option (Int32)) (i1 : Int32) (i2 : Int32) (i3 : Int32) : Option (Int32) :=
  if i3 < (gI ob 1) then
    X_memorySum_l33 NF ob k14 NF i1 i2 i3 ((i1 * (16 : Int32)) + i3) (0 : Int32)
  else
    some i2
def X_memorySum_l14 (NF : Nat) (ob : Rec) : Nat → Int32 → Int32 → Int32 → Option (Int32)
  | 0, _, _, _ => none
  | n + 1, i1, i2, i3 => X_memorySum_w14 NF ob (X_memorySum_l14 NF ob n) i1 i2 i3
set_option maxRecDepth 65536 in
set_option maxHeartbeats 4000000 in
theorem X_memorySum_w14_p {C : Ctx} {top : Nat} {a : Nat} {H : List (Nat × Nat × Rec)} {ob : Rec} {res : Int32} {NF : Nat} (k14 : Int32 → Int32 → Int32 → Option (Int32)) (hk14 : ∀ (i1 : Int32) (i2 : Int32) (i3 : Int32), k14 i1 i2 i3 = some res → Runs C B23 0 0 14 [vr a, vi i1, vi i2, vi i3, vn, vn] [] (top, (a, 18, ob) :: H) (Ans (some (.int res)) (top, (a, 18, ob) :: H))) (i1 : Int32) (i2 : Int32) (i3 : Int32) (hf : X_memorySum_w14 NF ob k14 i1 i2 i3 = some res) : Runs C B23 0 0 14 [vr a, vi i1, vi i2, vi i3, vn, vn] [] (top, (a, 18, ob) :: H) (Ans (some (.int res)) (top, (a, 18, ob) :: H)) := by
  delta X_memorySum_w14 at hf
  refine Runs.iloadN d23_14 rfl <| Runs.aloadN d23_15 rfl <| Runs.getI d23_16 w53 fS_1 <| ?_
  refine ite_el hf (fun hc1 hf => ?_) (fun hc1 hf => ?_)
  · refine Runs.icN d23_19 (tlt hc1).2.1 <| ?_
    exact Runs.iloadN d23_22 rfl <| Runs.bipush d23_23 cb_16 <| Runs.imul d23_25 <| Runs.iloadN d23_26 rfl <| Runs.iadd d23_27 <| Runs.istore (P' := [vr a, vi i1, vi i2, vi i3, vi ((i1 * (16 : Int32)) + i3), vn]) d23_28 (by decide) rfl <| Runs.iconst d23_30 ci_0 <| Runs.istore (P' := [vr a, vi i1, vi i2, vi i3, vi ((i1 * (16 : Int32)) + i3), vi (0 : Int32)]) d23_31 (by decide) rfl <| X_memorySum_l33_p k14 hk14 NF i1 i2 i3 ((i1 * (16 : Int32)) + i3) (0 : Int32) hf
  · refine Runs.icY (pc' := 62) d23_19 (flt hc1).2.1 (by decide) <| ?_
    obtain rfl := Option.some.inj hf
    exact Runs.iloadN d23_62 rfl <| Runs.retI d23_63 rfl ⟨by decide, by decide⟩ ⟨rfl, rfl⟩
theorem X_memorySum_l14_p {C : Ctx} {top : Nat} {a : Nat} {H : List (Nat × Nat × Rec)} {ob : Rec} {res : Int32} {NF : Nat} (n : Nat) (i1 : Int32) (i2 : Int32) (i3 : Int32) (hf : X_memorySum_l14 NF ob n i1 i2 i3 = some res) : Runs C B23 0 0 14 [vr a, vi i1, vi i2, vi i3, vn, vn] [] (top, (a, 18, ob) :: H) (Ans (some (.int res)) (top, (a, 18, ob) :: H)) := by
  induction n generalizing i1 i2 i3 with
  | zero => cases (show (none : Option (Int32)) = some res from hf)
  | succ n ih => exact X_memorySum_w14_p (X_memorySum_l14 NF ob n) (fun i1 i2 i3 h => ih _ _ _ h) i1 i2 i3 hf
def X_memorySum (NF : Nat) (ob : Rec) (i1 : Int32) : Option (Int32) :=
  (X_validPid ob i1).bind fun r5 =>
  if r5 = (0 : Int32) then
    some (0 : Int32)
  else
    X_memorySum_l14 NF ob NF i1 (0 : Int32) (0 : Int32)
set_option maxRecDepth 65536 in
set_option maxHeartbeats 4000000 in
theorem X_memorySum_p {C : Ctx} {top : Nat} {a : Nat} {H : List (Nat × Nat × Rec)} {ob : Rec} {res : Int32} {NF : Nat} (i1 : Int32) (hf : X_memorySum NF ob i1 = some res) : Runs C B23 0 0 0 [vr a, vi i1, vn, vn, vn, vn] [] (top, (a, 18, ob) :: H) (Ans (some (.int res)) (top, (a, 18, ob) :: H)) := by
  delta X_memorySum at hf
  refine Runs.aloadN d23_0 rfl <| Runs.iloadN d23_1 rfl <| ?_
  refine bind_el hf fun r5 hg6 hf => ?_
  refine Runs.callP (N := B4) (W := 0) (as := [.int i1]) (S' := []) d23_2 w73 w74 w75 rfl cw4 ar4 rk23_4_0 (by decide) rfl rfl (X_validPid_pay hg6) <| ans1 <| ?_
  refine ite_el hf (fun hc7 hf => ?_) (fun hc7 hf => ?_)
  · refine Runs.ifN d23_5 (teq hc7).2 <| ?_
    obtain rfl := Option.some.inj hf
    exact Runs.iconst d23_8 ci_0 <| Runs.retI d23_9 rfl ⟨by decide, by decide⟩ ⟨rfl, rfl⟩
  · refine Runs.ifY (pc' := 10) d23_5 (feq hc7).2 (by decide) <| ?_
    exact Runs.iconst d23_10 ci_0 <| Runs.istoreN (P' := [vr a, vi i1, vi (0 : Int32), vn, vn, vn]) d23_11 (by decide) rfl <| Runs.iconst d23_12 ci_0 <| Runs.istoreN (P' := [vr a, vi i1, vi (0 : Int32), vi (0 : Int32), vn, vn]) d23_13 (by decide) rfl <| X_memorySum_l14_p NF i1 (0 : Int32) (0 : Int32) hf
theorem X_memorySum_pay {C : Ctx} {top : Nat} {a : Nat} {H : List (Nat × Nat × Rec)} {ob : Rec} {res : Int32} {NF : Nat} {i1 : Int32} (hf : X_memorySum NF ob i1 = some res) : Pays C B23 [.ref a, .int i1] (top, (a, 18, ob) :: H) (Ans (some (.int res)) (top, (a, 18, ob) :: H)) :=
  Pays.of pnK (Nat.le_of_ble_eq_true rfl) (P := [vr a, vi i1, vn, vn, vn, vn]) 4 rfl (X_memorySum_p i1 hf)
def L_proc_w47 (NF : Nat) (ob : Rec) (k47 : Int32 → Int32 → Int64 → Int32 → Int32 → Int32 → Option (Int32)) (i1 : Int32) (i2 : Int32) (l3 : Int64) (i5 : Int32) (i6 : Int32) (i7 : Int32) : Option (Int32) :=
  if i7 < (16 : Int32) then
    if (((l3.toUInt64 >>> (((4 : Int32) * i7) &&& 0x3f).toInt64.toUInt64).toInt64) &&& (15 : Int64)) = (0 : Int64) then
      k47 i1 i2 l3 i5 i6 (i7 + (1 : Int32))
    else
      k47 i1 i2 l3 i5 (i6 + (1 : Int32)) (i7 + (1 : Int32))
  else
    (X_workingSetSize ob i1).bind fun r7 =>
    (X_touchedPages ob i1).bind fun r9 =>
    (X_virtualTime ob i1).bind fun r11 =>
    if r11 = i2 then
      (X_memorySum NF ob i1).bind fun r14 =>
      if r14 = i5 then
        if (3 : Int32) < r7 then
          some (0 : Int32)
        else
          if i2 < r7 then
            some (0 : Int32)
          else
            if r9 < r7 then
              some (0 : Int32)
            else
              if r9 < i6 then
                some (0 : Int32)
              else
                if (16 : Int32) < r9 then
                  some (0 : Int32)
                else
                  if i2 < r9 then
                    some (0 : Int32)
                  else
                    some (1 : Int32)
      else
        some (0 : Int32)
    else
      some (0 : Int32)
def L_proc_l47 (NF : Nat) (ob : Rec) : Nat → Int32 → Int32 → Int64 → Int32 → Int32 → Int32 → Option (Int32)
  | 0, _, _, _, _, _, _ => none
  | n + 1, i1, i2, l3, i5, i6, i7 => L_proc_w47 NF ob (L_proc_l47 NF ob n) i1 i2 l3 i5 i6 i7
set_option maxRecDepth 65536 in
set_option maxHeartbeats 4000000 in
theorem L_proc_w47_p {C : Ctx} {top : Nat} {a : Nat} {H : List (Nat × Nat × Rec)} {ob : Rec} {res : Int32} {NF : Nat} (k47 : Int32 → Int32 → Int64 → Int32 → Int32 → Int32 → Option (Int32)) (hk47 : ∀ (i1 : Int32) (i2 : Int32) (l3 : Int64) (i5 : Int32) (i6 : Int32) (i7 : Int32), k47 i1 i2 l3 i5 i6 i7 = some res → Runs C B20 0 0 47 [vr a, vi i1, vi i2, vl l3, v2, vi i5, vi i6, vi i7, vn] [] (top, (a, 18, ob) :: H) (Ans (some (.int res)) (top, (a, 18, ob) :: H))) (i1 : Int32) (i2 : Int32) (l3 : Int64) (i5 : Int32) (i6 : Int32) (i7 : Int32) (hf : L_proc_w47 NF ob k47 i1 i2 l3 i5 i6 i7 = some res) : Runs C B20 0 0 47 [vr a, vi i1, vi i2, vl l3, v2, vi i5, vi i6, vi i7, vn] [] (top, (a, 18, ob) :: H) (Ans (some (.int res)) (top, (a, 18, ob) :: H)) := by
  delta L_proc_w47 at hf
  refine Runs.iload d20_47 rfl <| Runs.bipush d20_49 cb_16 <| ?_
  refine ite_el hf (fun hc5 hf => ?_) (fun hc5 hf => ?_)
  · refine Runs.icN d20_51 (tlt hc5).2.1 <| ?_
    refine Runs.lloadN d20_54 rfl <| Runs.iconst d20_55 ci_4 <| Runs.iload d20_56 rfl <| Runs.imul d20_58 <| Runs.lushr d20_59 <| Runs.ldc2 d20_60 w148 <| Runs.land d20_63 <| Runs.lconst d20_64 cl_0 <| Runs.lcmp d20_65 <| ?_
    refine ite_el hf (fun hc6 hf => ?_) (fun hc6 hf => ?_)
    · refine Runs.ifY (pc' := 72) d20_66 (teq ((lw_eq _ _).mpr hc6)).1 (by decide) <| ?_
      exact Runs.iinc (P' := [vr a, vi i1, vi i2, vl l3, v2, vi i5, vi i6, vi (i7 + (1 : Int32)), vn]) d20_72 ci_1 rfl (by decide) rfl <| Runs.goto (pc' := 47) d20_75 (by decide) <| hk47 i1 i2 l3 i5 i6 (i7 + (1 : Int32)) hf
    · refine Runs.ifN d20_66 (feq (fun u => hc6 ((lw_eq _ _).mp u))).1 <| ?_
      exact Runs.iinc (P' := [vr a, vi i1, vi i2, vl l3, v2, vi i5, vi (i6 + (1 : Int32)), vi i7, vn]) d20_69 ci_1 rfl (by decide) rfl <| Runs.iinc (P' := [vr a, vi i1, vi i2, vl l3, v2, vi i5, vi (i6 + (1 : Int32)), vi (i7 + (1 : Int32)), vn]) d20_72 ci_1 rfl (by decide) rfl <| Runs.goto (pc' := 47) d20_75 (by decide) <| hk47 i1 i2 l3 i5 (i6 + (1 : Int32)) (i7 + (1 : Int32)) hf
  · refine Runs.icY (pc' := 78) d20_51 (flt hc5).2.1 (by decide) <| ?_
    refine Runs.aloadN d20_78 rfl <| Runs.iloadN d20_79 rfl <| ?_
    refine bind_el hf fun r7 hg8 hf => ?_
    refine Runs.callV (N := B17) (W := 0) (as := [.int i1]) (S' := []) d20_80 w129 w130 w131 w132 cw17 ar17 rk20_17_0 (by decide) rfl rfl (X_workingSetSize_pay hg8) <| ans1 <| Runs.istore (P' := [vr a, vi i1, vi i2, vl l3, v2, vi i5, vi i6, vi r7, vn]) d20_83 (by decide) rfl <| Runs.aloadN d20_85 rfl <| Runs.iloadN d20_86 rfl <| ?_
    refine bind_el hf fun r9 hg10 hf => ?_
    refine Runs.callV (N := B21) (W := 0) (as := [.int i1]) (S' := []) d20_87 w149 w150 w151 w152 cw21 ar21 rk20_21_0 (by decide) rfl rfl (X_touchedPages_pay hg10) <| ans1 <| Runs.istore (P' := [vr a, vi i1, vi i2, vl l3, v2, vi i5, vi i6, vi r7, vi r9]) d20_90 (by decide) rfl <| Runs.aloadN d20_92 rfl <| Runs.iloadN d20_93 rfl <| ?_
    refine bind_el hf fun r11 hg12 hf => ?_
    refine Runs.callV (N := B22) (W := 0) (as := [.int i1]) (S' := []) d20_94 w154 w155 w156 w157 cw22 ar22 rk20_22_0 (by decide) rfl rfl (X_virtualTime_pay hg12) <| ans1 <| Runs.iloadN d20_97 rfl <| ?_
    refine ite_el hf (fun hc13 hf => ?_) (fun hc13 hf => ?_)
    · refine Runs.icN d20_98 (teq hc13).2 <| ?_
      refine Runs.aloadN d20_101 rfl <| Runs.iloadN d20_102 rfl <| ?_
      refine bind_el hf fun r14 hg15 hf => ?_
      refine Runs.callV (N := B23) (W := 0) (as := [.int i1]) (S' := []) d20_103 w159 w160 w161 w162 cw23 ar23 rk20_23_0 (by decide) rfl rfl (X_memorySum_pay hg15) <| ans1 <| Runs.iload d20_106 rfl <| ?_
      refine ite_el hf (fun hc16 hf => ?_) (fun hc16 hf => ?_)
      · refine Runs.icN d20_108 (teq hc16).2 <| ?_
        refine Runs.iload d20_111 rfl <| Runs.iconst d20_113 ci_3 <| ?_
        refine ite_el hf (fun hc17 hf => ?_) (fun hc17 hf => ?_)
        · refine Runs.icY (pc' := 154) d20_114 (tlt hc17).2.2.1 (by decide) <| ?_
          obtain rfl := Option.some.inj hf
          exact Runs.iconst d20_154 ci_0 <| Runs.retZ (y := (0 : Int32)) d20_155 rfl ⟨by decide, by decide⟩ rfl ⟨rfl, rfl⟩
        · refine Runs.icN d20_114 (flt hc17).2.2.1 <| ?_
          refine Runs.iload d20_117 rfl <| Runs.iloadN d20_119 rfl <| ?_
          refine ite_el hf (fun hc18 hf => ?_) (fun hc18 hf => ?_)
          · refine Runs.icY (pc' := 154) d20_120 (tlt hc18).2.2.1 (by decide) <| ?_
            obtain rfl := Option.some.inj hf
            exact Runs.iconst d20_154 ci_0 <| Runs.retZ (y := (0 : Int32)) d20_155 rfl ⟨by decide, by decide⟩ rfl ⟨rfl, rfl⟩
          · refine Runs.icN d20_120 (flt hc18).2.2.1 <| ?_
            refine Runs.iload d20_123 rfl <| Runs.iload d20_125 rfl <| ?_
            refine ite_el hf (fun hc19 hf => ?_) (fun hc19 hf => ?_)
            · refine Runs.icY (pc' := 154) d20_127 (tlt hc19).1 (by decide) <| ?_
              obtain rfl := Option.some.inj hf
              exact Runs.iconst d20_154 ci_0 <| Runs.retZ (y := (0 : Int32)) d20_155 rfl ⟨by decide, by decide⟩ rfl ⟨rfl, rfl⟩
            · refine Runs.icN d20_127 (flt hc19).1 <| ?_
              refine Runs.iload d20_130 rfl <| Runs.iload d20_132 rfl <| ?_
              refine ite_el hf (fun hc20 hf => ?_) (fun hc20 hf => ?_)
              · refine Runs.icY (pc' := 154) d20_134 (tlt hc20).1 (by decide) <| ?_
                obtain rfl := Option.some.inj hf
                exact Runs.iconst d20_154 ci_0 <| Runs.retZ (y := (0 : Int32)) d20_155 rfl ⟨by decide, by decide⟩ rfl ⟨rfl, rfl⟩
              · refine Runs.icN d20_134 (flt hc20).1 <| ?_
                refine Runs.iload d20_137 rfl <| Runs.bipush d20_139 cb_16 <| ?_
                refine ite_el hf (fun hc21 hf => ?_) (fun hc21 hf => ?_)
                · refine Runs.icY (pc' := 154) d20_141 (tlt hc21).2.2.1 (by decide) <| ?_
                  obtain rfl := Option.some.inj hf
                  exact Runs.iconst d20_154 ci_0 <| Runs.retZ (y := (0 : Int32)) d20_155 rfl ⟨by decide, by decide⟩ rfl ⟨rfl, rfl⟩
                · refine Runs.icN d20_141 (flt hc21).2.2.1 <| ?_
                  refine Runs.iload d20_144 rfl <| Runs.iloadN d20_146 rfl <| ?_
                  refine ite_el hf (fun hc22 hf => ?_) (fun hc22 hf => ?_)
                  · refine Runs.icY (pc' := 154) d20_147 (tlt hc22).2.2.1 (by decide) <| ?_
                    obtain rfl := Option.some.inj hf
                    exact Runs.iconst d20_154 ci_0 <| Runs.retZ (y := (0 : Int32)) d20_155 rfl ⟨by decide, by decide⟩ rfl ⟨rfl, rfl⟩
                  · refine Runs.icN d20_147 (flt hc22).2.2.1 <| ?_
                    obtain rfl := Option.some.inj hf
                    exact Runs.iconst d20_150 ci_1 <| Runs.goto (pc' := 155) d20_151 (by decide) <| Runs.retZ (y := (1 : Int32)) d20_155 rfl ⟨by decide, by decide⟩ rfl ⟨rfl, rfl⟩
      · refine Runs.icY (pc' := 154) d20_108 (feq hc16).2 (by decide) <| ?_
        obtain rfl := Option.some.inj hf
        exact Runs.iconst d20_154 ci_0 <| Runs.retZ (y := (0 : Int32)) d20_155 rfl ⟨by decide, by decide⟩ rfl ⟨rfl, rfl⟩
    · refine Runs.icY (pc' := 154) d20_98 (feq hc13).2 (by decide) <| ?_
      obtain rfl := Option.some.inj hf
      exact Runs.iconst d20_154 ci_0 <| Runs.retZ (y := (0 : Int32)) d20_155 rfl ⟨by decide, by decide⟩ rfl ⟨rfl, rfl⟩
theorem L_proc_l47_p {C : Ctx} {top : Nat} {a : Nat} {H : List (Nat × Nat × Rec)} {ob : Rec} {res : Int32} {NF : Nat} (n : Nat) (i1 : Int32) (i2 : Int32) (l3 : Int64) (i5 : Int32) (i6 : Int32) (i7 : Int32) (hf : L_proc_l47 NF ob n i1 i2 l3 i5 i6 i7 = some res) : Runs C B20 0 0 47 [vr a, vi i1, vi i2, vl l3, v2, vi i5, vi i6, vi i7, vn] [] (top, (a, 18, ob) :: H) (Ans (some (.int res)) (top, (a, 18, ob) :: H)) := by
  induction n generalizing i1 i2 l3 i5 i6 i7 with
  | zero => cases (show (none : Option (Int32)) = some res from hf)
  | succ n ih => exact L_proc_w47_p (L_proc_l47 NF ob n) (fun i1 i2 l3 i5 i6 i7 h => ih _ _ _ _ _ _ h) i1 i2 l3 i5 i6 i7 hf
def L_proc_w9 (NF : Nat) (ob : Rec) (k9 : Int32 → Int32 → Int64 → Int32 → Int32 → Int32 → Option (Int32)) (i1 : Int32) (i2 : Int32) (l3 : Int64) (i5 : Int32) (i6 : Int32) (i7 : Int32) : Option (Int32) :=
  if i7 < (64 : Int32) then
    if (((l3.toUInt64 >>> (i7 &&& 0x3f).toInt64.toUInt64).toInt64) &&& (1 : Int64)) = (0 : Int64) then
      k9 i1 i2 l3 i5 i6 (i7 + (1 : Int32))
    else
      (L_val i1 i7).bind fun r3 =>
      k9 i1 i2 l3 (i5 + r3) i6 (i7 + (1 : Int32))
  else
    L_proc_l47 NF ob NF i1 i2 l3 i5 i6 (0 : Int32)
def L_proc_l9 (NF : Nat) (ob : Rec) : Nat → Int32 → Int32 → Int64 → Int32 → Int32 → Int32 → Option (Int32)
  | 0, _, _, _, _, _, _ => none
  | n + 1, i1, i2, l3, i5, i6, i7 => L_proc_w9 NF ob (L_proc_l9 NF ob n) i1 i2 l3 i5 i6 i7
set_option maxRecDepth 65536 in
set_option maxHeartbeats 4000000 in
theorem L_proc_w9_p {C : Ctx} {top : Nat} {a : Nat} {H : List (Nat × Nat × Rec)} {ob : Rec} {res : Int32} {NF : Nat} (k9 : Int32 → Int32 → Int64 → Int32 → Int32 → Int32 → Option (Int32)) (hk9 : ∀ (i1 : Int32) (i2 : Int32) (l3 : Int64) (i5 : Int32) (i6 : Int32) (i7 : Int32), k9 i1 i2 l3 i5 i6 i7 = some res → Runs C B20 0 0 9 [vr a, vi i1, vi i2, vl l3, v2, vi i5, vi i6, vi i7, vn] [] (top, (a, 18, ob) :: H) (Ans (some (.int res)) (top, (a, 18, ob) :: H))) (i1 : Int32) (i2 : Int32) (l3 : Int64) (i5 : Int32) (i6 : Int32) (i7 : Int32) (hf : L_proc_w9 NF ob k9 i1 i2 l3 i5 i6 i7 = some res) : Runs C B20 0 0 9 [vr a, vi i1, vi i2, vl l3, v2, vi i5, vi i6, vi i7, vn] [] (top, (a, 18, ob) :: H) (Ans (some (.int res)) (top, (a, 18, ob) :: H)) := by
  delta L_proc_w9 at hf
  refine Runs.iload d20_9 rfl <| Runs.bipush d20_11 cb_64 <| ?_
  refine ite_el hf (fun hc1 hf => ?_) (fun hc1 hf => ?_)
  · refine Runs.icN d20_13 (tlt hc1).2.1 <| ?_
    refine Runs.lloadN d20_16 rfl <| Runs.iload d20_17 rfl <| Runs.lushr d20_19 <| Runs.lconst d20_20 cl_1 <| Runs.land d20_21 <| Runs.lconst d20_22 cl_0 <| Runs.lcmp d20_23 <| ?_
    refine ite_el hf (fun hc2 hf => ?_) (fun hc2 hf => ?_)
    · refine Runs.ifY (pc' := 38) d20_24 (teq ((lw_eq _ _).mpr hc2)).1 (by decide) <| ?_
      exact Runs.iinc (P' := [vr a, vi i1, vi i2, vl l3, v2, vi i5, vi i6, vi (i7 + (1 : Int32)), vn]) d20_38 ci_1 rfl (by decide) rfl <| Runs.goto (pc' := 9) d20_41 (by decide) <| hk9 i1 i2 l3 i5 i6 (i7 + (1 : Int32)) hf
    · refine Runs.ifN d20_24 (feq (fun u => hc2 ((lw_eq _ _).mp u))).1 <| ?_
      refine Runs.iload d20_27 rfl <| Runs.iloadN d20_29 rfl <| Runs.iload d20_30 rfl <| ?_
      refine bind_el hf fun r3 hg4 hf => ?_
      exact Runs.callS (N := B5) (W := 1) (as := [.int i1, .int i7]) (S' := [.int i5]) d20_32 w77 w78 cw5 ar5 rk20_5_1 (by decide) rfl rfl (L_val_pay hg4) <| ans1 <| Runs.iadd d20_35 <| Runs.istore (P' := [vr a, vi i1, vi i2, vl l3, v2, vi (i5 + r3), vi i6, vi i7, vn]) d20_36 (by decide) rfl <| Runs.iinc (P' := [vr a, vi i1, vi i2, vl l3, v2, vi (i5 + r3), vi i6, vi (i7 + (1 : Int32)), vn]) d20_38 ci_1 rfl (by decide) rfl <| Runs.goto (pc' := 9) d20_41 (by decide) <| hk9 i1 i2 l3 (i5 + r3) i6 (i7 + (1 : Int32)) hf
  · refine Runs.icY (pc' := 44) d20_13 (flt hc1).2.1 (by decide) <| ?_
    exact Runs.iconst d20_44 ci_0 <| Runs.istore (P' := [vr a, vi i1, vi i2, vl l3, v2, vi i5, vi i6, vi (0 : Int32), vn]) d20_45 (by decide) rfl <| L_proc_l47_p NF i1 i2 l3 i5 i6 (0 : Int32) hf
theorem L_proc_l9_p {C : Ctx} {top : Nat} {a : Nat} {H : List (Nat × Nat × Rec)} {ob : Rec} {res : Int32} {NF : Nat} (n : Nat) (i1 : Int32) (i2 : Int32) (l3 : Int64) (i5 : Int32) (i6 : Int32) (i7 : Int32) (hf : L_proc_l9 NF ob n i1 i2 l3 i5 i6 i7 = some res) : Runs C B20 0 0 9 [vr a, vi i1, vi i2, vl l3, v2, vi i5, vi i6, vi i7, vn] [] (top, (a, 18, ob) :: H) (Ans (some (.int res)) (top, (a, 18, ob) :: H)) := by
  induction n generalizing i1 i2 l3 i5 i6 i7 with
  | zero => cases (show (none : Option (Int32)) = some res from hf)
  | succ n ih => exact L_proc_w9_p (L_proc_l9 NF ob n) (fun i1 i2 l3 i5 i6 i7 h => ih _ _ _ _ _ _ h) i1 i2 l3 i5 i6 i7 hf
def L_proc (NF : Nat) (ob : Rec) (i1 : Int32) (i2 : Int32) (l3 : Int64) : Option (Int32) :=
  L_proc_l9 NF ob NF i1 i2 l3 (0 : Int32) (0 : Int32) (0 : Int32)
set_option maxRecDepth 65536 in
set_option maxHeartbeats 4000000 in
theorem L_proc_p {C : Ctx} {top : Nat} {a : Nat} {H : List (Nat × Nat × Rec)} {ob : Rec} {res : Int32} {NF : Nat} (i1 : Int32) (i2 : Int32) (l3 : Int64) (hf : L_proc NF ob i1 i2 l3 = some res) : Runs C B20 0 0 0 [vr a, vi i1, vi i2, vl l3, v2, vn, vn, vn, vn] [] (top, (a, 18, ob) :: H) (Ans (some (.int res)) (top, (a, 18, ob) :: H)) := by
  delta L_proc at hf
  exact Runs.iconst d20_0 ci_0 <| Runs.istore (P' := [vr a, vi i1, vi i2, vl l3, v2, vi (0 : Int32), vn, vn, vn]) d20_1 (by decide) rfl <| Runs.iconst d20_3 ci_0 <| Runs.istore (P' := [vr a, vi i1, vi i2, vl l3, v2, vi (0 : Int32), vi (0 : Int32), vn, vn]) d20_4 (by decide) rfl <| Runs.iconst d20_6 ci_0 <| Runs.istore (P' := [vr a, vi i1, vi i2, vl l3, v2, vi (0 : Int32), vi (0 : Int32), vi (0 : Int32), vn]) d20_7 (by decide) rfl <| L_proc_l9_p NF i1 i2 l3 (0 : Int32) (0 : Int32) (0 : Int32) hf
theorem L_proc_pay {C : Ctx} {top : Nat} {a : Nat} {H : List (Nat × Nat × Rec)} {ob : Rec} {res : Int32} {NF : Nat} {i1 : Int32} {i2 : Int32} {l3 : Int64} (hf : L_proc NF ob i1 i2 l3 = some res) : Pays C B20 [.ref a, .int i1, .int i2, .long l3] (top, (a, 18, ob) :: H) (Ans (some (.int res)) (top, (a, 18, ob) :: H)) :=
  Pays.of pnL (Nat.le_of_ble_eq_true rfl) (P := [vr a, vi i1, vi i2, vl l3, v2, vn, vn, vn, vn]) 4 rfl (L_proc_p i1 i2 l3 hf)
def L_law_w482 (NF : Nat) (z : Int32) (f : Int32 → Int32) (k43 : Rec → Int64 → Int64 → Int64 → Int64 → Int32 → Int32 → Int32 → Int32 → Int32 → Int32 → Option (Int32)) (k482 : Rec → Int64 → Int64 → Int64 → Int64 → Int32 → Int32 → Int32 → Int32 → Int32 → Int32 → Int32 → Int32 → Int32 → Option (Int32)) (ob : Rec) (l2 : Int64) (l4 : Int64) (l6 : Int64) (l8 : Int64) (i10 : Int32) (i11 : Int32) (i12 : Int32) (i13 : Int32) (i14 : Int32) (i15 : Int32) (i24 : Int32) (i25 : Int32) (i26 : Int32) : Option (Int32) :=
  if i26 < (4 : Int32) then
    (X_isSuspended ob i26).bind fun r56 =>
    if r56 = (0 : Int32) then
      (X_workingSetSize ob i26).bind fun r59 =>
      k482 ob l2 l4 l6 l8 i10 i11 i12 i13 i14 i15 i24 (i25 + r59) (i26 + (1 : Int32))
    else
      k482 ob l2 l4 l6 l8 i10 i11 i12 i13 i14 i15 (i24 + (1 : Int32)) i25 (i26 + (1 : Int32))
  else
    (X_activeTotal NF ob).bind fun r61 =>
    if r61 = i25 then
      (X_suspensions ob).bind fun r64 =>
      (X_readmissions ob).bind fun r66 =>
      if ((r64 - r66) - i14) = i24 then
        (L_proc NF ob (0 : Int32) i10 l2).bind fun r69 =>
        if r69 = (0 : Int32) then
          some (0 : Int32)
        else
          (L_proc NF ob (1 : Int32) i11 l4).bind fun r72 =>
          if r72 = (0 : Int32) then
            some (0 : Int32)
          else
            (L_proc NF ob (2 : Int32) i12 l6).bind fun r75 =>
            if r75 = (0 : Int32) then
              some (0 : Int32)
            else
              (L_proc NF ob (3 : Int32) i13 l8).bind fun r78 =>
              if r78 = (0 : Int32) then
                some (0 : Int32)
              else
                k43 ob l2 l4 l6 l8 i10 i11 i12 i13 i14 (i15 + (3 : Int32))
      else
        some (0 : Int32)
    else
      some (0 : Int32)
def L_law_l482 (NF : Nat) (z : Int32) (f : Int32 → Int32) (k43 : Rec → Int64 → Int64 → Int64 → Int64 → Int32 → Int32 → Int32 → Int32 → Int32 → Int32 → Option (Int32)) : Nat → Rec → Int64 → Int64 → Int64 → Int64 → Int32 → Int32 → Int32 → Int32 → Int32 → Int32 → Int32 → Int32 → Int32 → Option (Int32)
  | 0, _, _, _, _, _, _, _, _, _, _, _, _, _, _ => none
  | n + 1, ob, l2, l4, l6, l8, i10, i11, i12, i13, i14, i15, i24, i25, i26 => L_law_w482 NF z f k43 (L_law_l482 NF z f k43 n) ob l2 l4 l6 l8 i10 i11 i12 i13 i14 i15 i24 i25 i26
set_option maxRecDepth 65536 in
set_option maxHeartbeats 4000000 in
theorem L_law_w482_p {C : Ctx} {sa : Nat} {z : Int32} {f : Int32 → Int32} (hs : ScrF C sa z f) {res : Int32} {NF : Nat} (k43 : Rec → Int64 → Int64 → Int64 → Int64 → Int32 → Int32 → Int32 → Int32 → Int32 → Int32 → Option (Int32)) (hk43 : ∀ (ob : Rec) (l2 : Int64) (l4 : Int64) (l6 : Int64) (l8 : Int64) (i10 : Int32) (i11 : Int32) (i12 : Int32) (i13 : Int32) (i14 : Int32) (i15 : Int32), k43 ob l2 l4 l6 l8 i10 i11 i12 i13 i14 i15 = some res → Runs C B0 19 978 43 [vr sa, vr C.2.2.1, vl l2, v2, vl l4, v2, vl l6, v2, vl l8, v2, vi i10, vi i11, vi i12, vi i13, vi i14, vi i15, vn, vn, vn, vn, vn, vn, vn, vn, vn, vn, vn, vn] [] (C.2.2.1 + 1 + 18, (C.2.2.1, 18, ob) :: []) (fun v _ => v = (some (.int res)))) (k482 : Rec → Int64 → Int64 → Int64 → Int64 → Int32 → Int32 → Int32 → Int32 → Int32 → Int32 → Int32 → Int32 → Int32 → Option (Int32)) (hk482 : ∀ (ob : Rec) (l2 : Int64) (l4 : Int64) (l6 : Int64) (l8 : Int64) (i10 : Int32) (i11 : Int32) (i12 : Int32) (i13 : Int32) (i14 : Int32) (i15 : Int32) (i24 : Int32) (i25 : Int32) (i26 : Int32), k482 ob l2 l4 l6 l8 i10 i11 i12 i13 i14 i15 i24 i25 i26 = some res → Runs C B0 19 978 482 [vr sa, vr C.2.2.1, vl l2, v2, vl l4, v2, vl l6, v2, vl l8, v2, vi i10, vi i11, vi i12, vi i13, vi i14, vi i15, vn, vn, vn, vn, vn, vn, vn, vn, vi i24, vi i25, vi i26, vn] [] (C.2.2.1 + 1 + 18, (C.2.2.1, 18, ob) :: []) (fun v _ => v = (some (.int res)))) (ob : Rec) (l2 : Int64) (l4 : Int64) (l6 : Int64) (l8 : Int64) (i10 : Int32) (i11 : Int32) (i12 : Int32) (i13 : Int32) (i14 : Int32) (i15 : Int32) (i24 : Int32) (i25 : Int32) (i26 : Int32) (hf : L_law_w482 NF z f k43 k482 ob l2 l4 l6 l8 i10 i11 i12 i13 i14 i15 i24 i25 i26 = some res) : Runs C B0 19 978 482 [vr sa, vr C.2.2.1, vl l2, v2, vl l4, v2, vl l6, v2, vl l8, v2, vi i10, vi i11, vi i12, vi i13, vi i14, vi i15, vn, vn, vn, vn, vn, vn, vn, vn, vi i24, vi i25, vi i26, vn] [] (C.2.2.1 + 1 + 18, (C.2.2.1, 18, ob) :: []) (fun v _ => v = (some (.int res))) := by
  delta L_law_w482 at hf
  refine Runs.iload d0_482 rfl <| Runs.iconst d0_484 ci_4 <| ?_
  refine ite_el hf (fun hc55 hf => ?_) (fun hc55 hf => ?_)
  · refine Runs.icN d0_485 (tlt hc55).2.1 <| ?_
    refine Runs.aloadN d0_488 rfl <| Runs.iload d0_489 rfl <| ?_
    refine bind_el hf fun r56 hg57 hf => ?_
    refine Runs.callV (N := B3) (W := 0) (as := [.int i26]) (S' := []) d0_491 w68 w69 w70 w71 cw3 ar3 rk0_3_0 (by decide) rfl rfl (X_isSuspended_pay hg57) <| ans1 <| ?_
    refine ite_el hf (fun hc58 hf => ?_) (fun hc58 hf => ?_)
    · refine Runs.ifY (pc' := 503) d0_494 (teq hc58).1 (by decide) <| ?_
      refine Runs.iload d0_503 rfl <| Runs.aloadN d0_505 rfl <| Runs.iload d0_506 rfl <| ?_
      refine bind_el hf fun r59 hg60 hf => ?_
      exact Runs.callV (N := B17) (W := 1) (as := [.int i26]) (S' := [.int i25]) d0_508 w129 w130 w131 w132 cw17 ar17 rk0_17_1 (by decide) rfl rfl (X_workingSetSize_pay hg60) <| ans1 <| Runs.iadd d0_511 <| Runs.istore (P' := [vr sa, vr C.2.2.1, vl l2, v2, vl l4, v2, vl l6, v2, vl l8, v2, vi i10, vi i11, vi i12, vi i13, vi i14, vi i15, vn, vn, vn, vn, vn, vn, vn, vn, vi i24, vi (i25 + r59), vi i26, vn]) d0_512 (by decide) rfl <| Runs.iinc (P' := [vr sa, vr C.2.2.1, vl l2, v2, vl l4, v2, vl l6, v2, vl l8, v2, vi i10, vi i11, vi i12, vi i13, vi i14, vi i15, vn, vn, vn, vn, vn, vn, vn, vn, vi i24, vi (i25 + r59), vi (i26 + (1 : Int32)), vn]) d0_514 ci_1 rfl (by decide) rfl <| Runs.goto (pc' := 482) d0_517 (by decide) <| hk482 ob l2 l4 l6 l8 i10 i11 i12 i13 i14 i15 i24 (i25 + r59) (i26 + (1 : Int32)) hf
    · refine Runs.ifN d0_494 (feq hc58).1 <| ?_
      exact Runs.iinc (P' := [vr sa, vr C.2.2.1, vl l2, v2, vl l4, v2, vl l6, v2, vl l8, v2, vi i10, vi i11, vi i12, vi i13, vi i14, vi i15, vn, vn, vn, vn, vn, vn, vn, vn, vi (i24 + (1 : Int32)), vi i25, vi i26, vn]) d0_497 ci_1 rfl (by decide) rfl <| Runs.goto (pc' := 514) d0_500 (by decide) <| Runs.iinc (P' := [vr sa, vr C.2.2.1, vl l2, v2, vl l4, v2, vl l6, v2, vl l8, v2, vi i10, vi i11, vi i12, vi i13, vi i14, vi i15, vn, vn, vn, vn, vn, vn, vn, vn, vi (i24 + (1 : Int32)), vi i25, vi (i26 + (1 : Int32)), vn]) d0_514 ci_1 rfl (by decide) rfl <| Runs.goto (pc' := 482) d0_517 (by decide) <| hk482 ob l2 l4 l6 l8 i10 i11 i12 i13 i14 i15 (i24 + (1 : Int32)) i25 (i26 + (1 : Int32)) hf
  · refine Runs.icY (pc' := 520) d0_485 (flt hc55).2.1 (by decide) <| ?_
    refine Runs.aloadN d0_520 rfl <| ?_
    refine bind_el hf fun r61 hg62 hf => ?_
    refine Runs.callV (N := B14) (W := 0) (as := []) (S' := []) d0_521 w134 w115 w116 w117 cw14 ar14 rk0_14_0 (by decide) rfl rfl (X_activeTotal_pay hg62) <| ans1 <| Runs.iload d0_524 rfl <| ?_
    refine ite_el hf (fun hc63 hf => ?_) (fun hc63 hf => ?_)
    · refine Runs.icY (pc' := 531) d0_526 (teq hc63).1 (by decide) <| ?_
      refine Runs.aloadN d0_531 rfl <| ?_
      refine bind_el hf fun r64 hg65 hf => ?_
      refine Runs.callV (N := B18) (W := 0) (as := []) (S' := []) d0_532 w135 w136 w137 w138 cw18 ar18 rk0_18_0 (by decide) rfl rfl (X_suspensions_pay hg65) <| ans1 <| Runs.aloadN d0_535 rfl <| ?_
      refine bind_el hf fun r66 hg67 hf => ?_
      refine Runs.callV (N := B19) (W := 1) (as := []) (S' := [.int r64]) d0_536 w140 w141 w142 w143 cw19 ar19 rk0_19_1 (by decide) rfl rfl (X_readmissions_pay hg67) <| ans1 <| Runs.isub d0_539 <| Runs.iload d0_540 rfl <| Runs.isub d0_542 <| Runs.iload d0_543 rfl <| ?_
      refine ite_el hf (fun hc68 hf => ?_) (fun hc68 hf => ?_)
      · refine Runs.icY (pc' := 550) d0_545 (teq hc68).1 (by decide) <| ?_
        refine Runs.aloadN d0_550 rfl <| Runs.iconst d0_551 ci_0 <| Runs.iload d0_552 rfl <| Runs.lloadN d0_554 rfl <| ?_
        refine bind_el hf fun r69 hg70 hf => ?_
        refine Runs.callS (N := B20) (W := 0) (as := [.ref C.2.2.1, .int (0 : Int32), .int i10, .long l2]) (S' := []) d0_555 w145 w146 cw20 ar20 rk0_20_0 (by decide) rfl rfl (L_proc_pay hg70) <| ans1 <| ?_
        refine ite_el hf (fun hc71 hf => ?_) (fun hc71 hf => ?_)
        · refine Runs.ifY (pc' := 597) d0_558 (teq hc71).1 (by decide) <| ?_
          obtain rfl := Option.some.inj hf
          exact Runs.iconst d0_597 ci_0 <| Runs.retZ (y := (0 : Int32)) d0_598 rfl ⟨by decide, by decide⟩ rfl rfl
        · refine Runs.ifN d0_558 (feq hc71).1 <| ?_
          refine Runs.aloadN d0_561 rfl <| Runs.iconst d0_562 ci_1 <| Runs.iload d0_563 rfl <| Runs.lload d0_565 rfl <| ?_
          refine bind_el hf fun r72 hg73 hf => ?_
          refine Runs.callS (N := B20) (W := 0) (as := [.ref C.2.2.1, .int (1 : Int32), .int i11, .long l4]) (S' := []) d0_567 w145 w146 cw20 ar20 rk0_20_0 (by decide) rfl rfl (L_proc_pay hg73) <| ans1 <| ?_
          refine ite_el hf (fun hc74 hf => ?_) (fun hc74 hf => ?_)
          · refine Runs.ifY (pc' := 597) d0_570 (teq hc74).1 (by decide) <| ?_
            obtain rfl := Option.some.inj hf
            exact Runs.iconst d0_597 ci_0 <| Runs.retZ (y := (0 : Int32)) d0_598 rfl ⟨by decide, by decide⟩ rfl rfl
          · refine Runs.ifN d0_570 (feq hc74).1 <| ?_
            refine Runs.aloadN d0_573 rfl <| Runs.iconst d0_574 ci_2 <| Runs.iload d0_575 rfl <| Runs.lload d0_577 rfl <| ?_
            refine bind_el hf fun r75 hg76 hf => ?_
            refine Runs.callS (N := B20) (W := 0) (as := [.ref C.2.2.1, .int (2 : Int32), .int i12, .long l6]) (S' := []) d0_579 w145 w146 cw20 ar20 rk0_20_0 (by decide) rfl rfl (L_proc_pay hg76) <| ans1 <| ?_
            refine ite_el hf (fun hc77 hf => ?_) (fun hc77 hf => ?_)
            · refine Runs.ifY (pc' := 597) d0_582 (teq hc77).1 (by decide) <| ?_
              obtain rfl := Option.some.inj hf
              exact Runs.iconst d0_597 ci_0 <| Runs.retZ (y := (0 : Int32)) d0_598 rfl ⟨by decide, by decide⟩ rfl rfl
            · refine Runs.ifN d0_582 (feq hc77).1 <| ?_
              refine Runs.aloadN d0_585 rfl <| Runs.iconst d0_586 ci_3 <| Runs.iload d0_587 rfl <| Runs.lload d0_589 rfl <| ?_
              refine bind_el hf fun r78 hg79 hf => ?_
              refine Runs.callS (N := B20) (W := 0) (as := [.ref C.2.2.1, .int (3 : Int32), .int i13, .long l8]) (S' := []) d0_591 w145 w146 cw20 ar20 rk0_20_0 (by decide) rfl rfl (L_proc_pay hg79) <| ans1 <| ?_
              refine ite_el hf (fun hc80 hf => ?_) (fun hc80 hf => ?_)
              · refine Runs.ifN d0_594 (teq hc80).2 <| ?_
                obtain rfl := Option.some.inj hf
                exact Runs.iconst d0_597 ci_0 <| Runs.retZ (y := (0 : Int32)) d0_598 rfl ⟨by decide, by decide⟩ rfl rfl
              · refine Runs.ifY (pc' := 599) d0_594 (feq hc80).2 (by decide) <| ?_
                exact Runs.iinc (P' := [vr sa, vr C.2.2.1, vl l2, v2, vl l4, v2, vl l6, v2, vl l8, v2, vi i10, vi i11, vi i12, vi i13, vi i14, vi (i15 + (3 : Int32)), vn, vn, vn, vn, vn, vn, vn, vn, vi i24, vi i25, vi i26, vn]) d0_599 ci_3 rfl (by decide) rfl <| Runs.goto (pc' := 43) d0_602 (by decide) <| Runs.forget [true, true, true, true, true, true, true, true, true, true, true, true, true, true, true, true, false, false, false, false, false, false, false, false, false, false, false, false] rfl <| hk43 ob l2 l4 l6 l8 i10 i11 i12 i13 i14 (i15 + (3 : Int32)) hf
      · refine Runs.icN d0_545 (feq hc68).1 <| ?_
        obtain rfl := Option.some.inj hf
        exact Runs.iconst d0_548 ci_0 <| Runs.retZ (y := (0 : Int32)) d0_549 rfl ⟨by decide, by decide⟩ rfl rfl
    · refine Runs.icN d0_526 (feq hc63).1 <| ?_
      obtain rfl := Option.some.inj hf
      exact Runs.iconst d0_529 ci_0 <| Runs.retZ (y := (0 : Int32)) d0_530 rfl ⟨by decide, by decide⟩ rfl rfl
theorem L_law_l482_p {C : Ctx} {sa : Nat} {z : Int32} {f : Int32 → Int32} (hs : ScrF C sa z f) {res : Int32} {NF : Nat} (k43 : Rec → Int64 → Int64 → Int64 → Int64 → Int32 → Int32 → Int32 → Int32 → Int32 → Int32 → Option (Int32)) (hk43 : ∀ (ob : Rec) (l2 : Int64) (l4 : Int64) (l6 : Int64) (l8 : Int64) (i10 : Int32) (i11 : Int32) (i12 : Int32) (i13 : Int32) (i14 : Int32) (i15 : Int32), k43 ob l2 l4 l6 l8 i10 i11 i12 i13 i14 i15 = some res → Runs C B0 19 978 43 [vr sa, vr C.2.2.1, vl l2, v2, vl l4, v2, vl l6, v2, vl l8, v2, vi i10, vi i11, vi i12, vi i13, vi i14, vi i15, vn, vn, vn, vn, vn, vn, vn, vn, vn, vn, vn, vn] [] (C.2.2.1 + 1 + 18, (C.2.2.1, 18, ob) :: []) (fun v _ => v = (some (.int res)))) (n : Nat) (ob : Rec) (l2 : Int64) (l4 : Int64) (l6 : Int64) (l8 : Int64) (i10 : Int32) (i11 : Int32) (i12 : Int32) (i13 : Int32) (i14 : Int32) (i15 : Int32) (i24 : Int32) (i25 : Int32) (i26 : Int32) (hf : L_law_l482 NF z f k43 n ob l2 l4 l6 l8 i10 i11 i12 i13 i14 i15 i24 i25 i26 = some res) : Runs C B0 19 978 482 [vr sa, vr C.2.2.1, vl l2, v2, vl l4, v2, vl l6, v2, vl l8, v2, vi i10, vi i11, vi i12, vi i13, vi i14, vi i15, vn, vn, vn, vn, vn, vn, vn, vn, vi i24, vi i25, vi i26, vn] [] (C.2.2.1 + 1 + 18, (C.2.2.1, 18, ob) :: []) (fun v _ => v = (some (.int res))) := by
  induction n generalizing ob l2 l4 l6 l8 i10 i11 i12 i13 i14 i15 i24 i25 i26 with
  | zero => cases (show (none : Option (Int32)) = some res from hf)
  | succ n ih => exact L_law_w482_p hs k43 hk43 (L_law_l482 NF z f k43 n) (fun ob l2 l4 l6 l8 i10 i11 i12 i13 i14 i15 i24 i25 i26 h => ih _ _ _ _ _ _ _ _ _ _ _ _ _ _ h) ob l2 l4 l6 l8 i10 i11 i12 i13 i14 i15 i24 i25 i26 hf
def L_law_b462 (NF : Nat) (z : Int32) (f : Int32 → Int32) (k43 : Rec → Int64 → Int64 → Int64 → Int64 → Int32 → Int32 → Int32 → Int32 → Int32 → Int32 → Option (Int32)) (ob : Rec) (l2 : Int64) (l4 : Int64) (l6 : Int64) (l8 : Int64) (i10 : Int32) (i11 : Int32) (i12 : Int32) (i13 : Int32) (i14 : Int32) (i15 : Int32) (i23 : Int32) : Option (Int32) :=
  (X_lastStatus ob).bind fun r52 =>
  if r52 = i23 then
    L_law_l482 NF z f k43 NF ob l2 l4 l6 l8 i10 i11 i12 i13 i14 i15 (0 : Int32) (0 : Int32) (0 : Int32)
  else
    some (0 : Int32)
set_option maxRecDepth 65536 in
set_option maxHeartbeats 4000000 in
theorem L_law_b462_p {C : Ctx} {sa : Nat} {z : Int32} {f : Int32 → Int32} (hs : ScrF C sa z f) {res : Int32} {NF : Nat} (k43 : Rec → Int64 → Int64 → Int64 → Int64 → Int32 → Int32 → Int32 → Int32 → Int32 → Int32 → Option (Int32)) (hk43 : ∀ (ob : Rec) (l2 : Int64) (l4 : Int64) (l6 : Int64) (l8 : Int64) (i10 : Int32) (i11 : Int32) (i12 : Int32) (i13 : Int32) (i14 : Int32) (i15 : Int32), k43 ob l2 l4 l6 l8 i10 i11 i12 i13 i14 i15 = some res → Runs C B0 19 978 43 [vr sa, vr C.2.2.1, vl l2, v2, vl l4, v2, vl l6, v2, vl l8, v2, vi i10, vi i11, vi i12, vi i13, vi i14, vi i15, vn, vn, vn, vn, vn, vn, vn, vn, vn, vn, vn, vn] [] (C.2.2.1 + 1 + 18, (C.2.2.1, 18, ob) :: []) (fun v _ => v = (some (.int res)))) (ob : Rec) (l2 : Int64) (l4 : Int64) (l6 : Int64) (l8 : Int64) (i10 : Int32) (i11 : Int32) (i12 : Int32) (i13 : Int32) (i14 : Int32) (i15 : Int32) (i23 : Int32) (hf : L_law_b462 NF z f k43 ob l2 l4 l6 l8 i10 i11 i12 i13 i14 i15 i23 = some res) : Runs C B0 19 978 462 [vr sa, vr C.2.2.1, vl l2, v2, vl l4, v2, vl l6, v2, vl l8, v2, vi i10, vi i11, vi i12, vi i13, vi i14, vi i15, vn, vn, vn, vn, vn, vn, vn, vi i23, vn, vn, vn, vn] [] (C.2.2.1 + 1 + 18, (C.2.2.1, 18, ob) :: []) (fun v _ => v = (some (.int res))) := by
  delta L_law_b462 at hf
  refine Runs.aloadN d0_462 rfl <| ?_
  refine bind_el hf fun r52 hg53 hf => ?_
  refine Runs.callV (N := B16) (W := 0) (as := []) (S' := []) d0_463 w124 w125 w126 w127 cw16 ar16 rk0_16_0 (by decide) rfl rfl (X_lastStatus_pay hg53) <| ans1 <| Runs.iload d0_466 rfl <| ?_
  refine ite_el hf (fun hc54 hf => ?_) (fun hc54 hf => ?_)
  · refine Runs.icY (pc' := 473) d0_468 (teq hc54).1 (by decide) <| ?_
    exact Runs.iconst d0_473 ci_0 <| Runs.istore (P' := [vr sa, vr C.2.2.1, vl l2, v2, vl l4, v2, vl l6, v2, vl l8, v2, vi i10, vi i11, vi i12, vi i13, vi i14, vi i15, vn, vn, vn, vn, vn, vn, vn, vi i23, vi (0 : Int32), vn, vn, vn]) d0_474 (by decide) rfl <| Runs.iconst d0_476 ci_0 <| Runs.istore (P' := [vr sa, vr C.2.2.1, vl l2, v2, vl l4, v2, vl l6, v2, vl l8, v2, vi i10, vi i11, vi i12, vi i13, vi i14, vi i15, vn, vn, vn, vn, vn, vn, vn, vi i23, vi (0 : Int32), vi (0 : Int32), vn, vn]) d0_477 (by decide) rfl <| Runs.iconst d0_479 ci_0 <| Runs.istore (P' := [vr sa, vr C.2.2.1, vl l2, v2, vl l4, v2, vl l6, v2, vl l8, v2, vi i10, vi i11, vi i12, vi i13, vi i14, vi i15, vn, vn, vn, vn, vn, vn, vn, vi i23, vi (0 : Int32), vi (0 : Int32), vi (0 : Int32), vn]) d0_480 (by decide) rfl <| Runs.forget [true, true, true, true, true, true, true, true, true, true, true, true, true, true, true, true, false, false, false, false, false, false, false, false, true, true, true, false] rfl <| L_law_l482_p hs k43 hk43 NF ob l2 l4 l6 l8 i10 i11 i12 i13 i14 i15 (0 : Int32) (0 : Int32) (0 : Int32) hf
  · refine Runs.icN d0_468 (feq hc54).1 <| ?_
    obtain rfl := Option.some.inj hf
    exact Runs.iconst d0_471 ci_0 <| Runs.retZ (y := (0 : Int32)) d0_472 rfl ⟨by decide, by decide⟩ rfl rfl
def L_law_b399 (NF : Nat) (z : Int32) (f : Int32 → Int32) (k43 : Rec → Int64 → Int64 → Int64 → Int64 → Int32 → Int32 → Int32 → Int32 → Int32 → Int32 → Option (Int32)) (ob : Rec) (l2 : Int64) (l4 : Int64) (l6 : Int64) (l8 : Int64) (i10 : Int32) (i11 : Int32) (i12 : Int32) (i13 : Int32) (i14 : Int32) (i15 : Int32) (i17 : Int32) (l20 : Int64) (i22 : Int32) (i23 : Int32) : Option (Int32) :=
  if i17 = (0 : Int32) then
    L_law_b462 NF z f k43 ob l20 l4 l6 l8 i22 i11 i12 i13 i14 i15 i23
  else
    if i17 = (1 : Int32) then
      L_law_b462 NF z f k43 ob l2 l20 l6 l8 i10 i22 i12 i13 i14 i15 i23
    else
      if i17 = (2 : Int32) then
        L_law_b462 NF z f k43 ob l2 l4 l20 l8 i10 i11 i22 i13 i14 i15 i23
      else
        if i17 = (3 : Int32) then
          L_law_b462 NF z f k43 ob l2 l4 l6 l20 i10 i11 i12 i22 i14 i15 i23
        else
          L_law_b462 NF z f k43 ob l2 l4 l6 l8 i10 i11 i12 i13 i14 i15 i23
set_option maxRecDepth 65536 in
set_option maxHeartbeats 4000000 in
theorem L_law_b399_p {C : Ctx} {sa : Nat} {z : Int32} {f : Int32 → Int32} (hs : ScrF C sa z f) {res : Int32} {NF : Nat} (k43 : Rec → Int64 → Int64 → Int64 → Int64 → Int32 → Int32 → Int32 → Int32 → Int32 → Int32 → Option (Int32)) (hk43 : ∀ (ob : Rec) (l2 : Int64) (l4 : Int64) (l6 : Int64) (l8 : Int64) (i10 : Int32) (i11 : Int32) (i12 : Int32) (i13 : Int32) (i14 : Int32) (i15 : Int32), k43 ob l2 l4 l6 l8 i10 i11 i12 i13 i14 i15 = some res → Runs C B0 19 978 43 [vr sa, vr C.2.2.1, vl l2, v2, vl l4, v2, vl l6, v2, vl l8, v2, vi i10, vi i11, vi i12, vi i13, vi i14, vi i15, vn, vn, vn, vn, vn, vn, vn, vn, vn, vn, vn, vn] [] (C.2.2.1 + 1 + 18, (C.2.2.1, 18, ob) :: []) (fun v _ => v = (some (.int res)))) (ob : Rec) (l2 : Int64) (l4 : Int64) (l6 : Int64) (l8 : Int64) (i10 : Int32) (i11 : Int32) (i12 : Int32) (i13 : Int32) (i14 : Int32) (i15 : Int32) (i17 : Int32) (l20 : Int64) (i22 : Int32) (i23 : Int32) (hf : L_law_b399 NF z f k43 ob l2 l4 l6 l8 i10 i11 i12 i13 i14 i15 i17 l20 i22 i23 = some res) : Runs C B0 19 978 399 [vr sa, vr C.2.2.1, vl l2, v2, vl l4, v2, vl l6, v2, vl l8, v2, vi i10, vi i11, vi i12, vi i13, vi i14, vi i15, vn, vi i17, vn, vn, vl l20, v2, vi i22, vi i23, vn, vn, vn, vn] [] (C.2.2.1 + 1 + 18, (C.2.2.1, 18, ob) :: []) (fun v _ => v = (some (.int res))) := by
  delta L_law_b399 at hf
  refine Runs.iload d0_399 rfl <| ?_
  refine ite_el hf (fun hc48 hf => ?_) (fun hc48 hf => ?_)
  · refine Runs.ifN d0_401 (teq hc48).2 <| ?_
    exact Runs.lload d0_404 rfl <| Runs.lstoreN (P' := [vr sa, vr C.2.2.1, vl l20, v2, vl l4, v2, vl l6, v2, vl l8, v2, vi i10, vi i11, vi i12, vi i13, vi i14, vi i15, vn, vi i17, vn, vn, vl l20, v2, vi i22, vi i23, vn, vn, vn, vn]) d0_406 (by decide) rfl <| Runs.iload d0_407 rfl <| Runs.istore (P' := [vr sa, vr C.2.2.1, vl l20, v2, vl l4, v2, vl l6, v2, vl l8, v2, vi i22, vi i11, vi i12, vi i13, vi i14, vi i15, vn, vi i17, vn, vn, vl l20, v2, vi i22, vi i23, vn, vn, vn, vn]) d0_409 (by decide) rfl <| Runs.goto (pc' := 462) d0_411 (by decide) <| Runs.forget [true, true, true, true, true, true, true, true, true, true, true, true, true, true, true, true, false, false, false, false, false, false, false, true, false, false, false, false] rfl <| L_law_b462_p hs k43 hk43 ob l20 l4 l6 l8 i22 i11 i12 i13 i14 i15 i23 hf
  · refine Runs.ifY (pc' := 414) d0_401 (feq hc48).2 (by decide) <| ?_
    refine Runs.iload d0_414 rfl <| Runs.iconst d0_416 ci_1 <| ?_
    refine ite_el hf (fun hc49 hf => ?_) (fun hc49 hf => ?_)
    · refine Runs.icN d0_417 (teq hc49).2 <| ?_
      exact Runs.lload d0_420 rfl <| Runs.lstore (P' := [vr sa, vr C.2.2.1, vl l2, v2, vl l20, v2, vl l6, v2, vl l8, v2, vi i10, vi i11, vi i12, vi i13, vi i14, vi i15, vn, vi i17, vn, vn, vl l20, v2, vi i22, vi i23, vn, vn, vn, vn]) d0_422 (by decide) rfl <| Runs.iload d0_424 rfl <| Runs.istore (P' := [vr sa, vr C.2.2.1, vl l2, v2, vl l20, v2, vl l6, v2, vl l8, v2, vi i10, vi i22, vi i12, vi i13, vi i14, vi i15, vn, vi i17, vn, vn, vl l20, v2, vi i22, vi i23, vn, vn, vn, vn]) d0_426 (by decide) rfl <| Runs.goto (pc' := 462) d0_428 (by decide) <| Runs.forget [true, true, true, true, true, true, true, true, true, true, true, true, true, true, true, true, false, false, false, false, false, false, false, true, false, false, false, false] rfl <| L_law_b462_p hs k43 hk43 ob l2 l20 l6 l8 i10 i22 i12 i13 i14 i15 i23 hf
    · refine Runs.icY (pc' := 431) d0_417 (feq hc49).2 (by decide) <| ?_
      refine Runs.iload d0_431 rfl <| Runs.iconst d0_433 ci_2 <| ?_
      refine ite_el hf (fun hc50 hf => ?_) (fun hc50 hf => ?_)
      · refine Runs.icN d0_434 (teq hc50).2 <| ?_
        exact Runs.lload d0_437 rfl <| Runs.lstore (P' := [vr sa, vr C.2.2.1, vl l2, v2, vl l4, v2, vl l20, v2, vl l8, v2, vi i10, vi i11, vi i12, vi i13, vi i14, vi i15, vn, vi i17, vn, vn, vl l20, v2, vi i22, vi i23, vn, vn, vn, vn]) d0_439 (by decide) rfl <| Runs.iload d0_441 rfl <| Runs.istore (P' := [vr sa, vr C.2.2.1, vl l2, v2, vl l4, v2, vl l20, v2, vl l8, v2, vi i10, vi i11, vi i22, vi i13, vi i14, vi i15, vn, vi i17, vn, vn, vl l20, v2, vi i22, vi i23, vn, vn, vn, vn]) d0_443 (by decide) rfl <| Runs.goto (pc' := 462) d0_445 (by decide) <| Runs.forget [true, true, true, true, true, true, true, true, true, true, true, true, true, true, true, true, false, false, false, false, false, false, false, true, false, false, false, false] rfl <| L_law_b462_p hs k43 hk43 ob l2 l4 l20 l8 i10 i11 i22 i13 i14 i15 i23 hf
      · refine Runs.icY (pc' := 448) d0_434 (feq hc50).2 (by decide) <| ?_
        refine Runs.iload d0_448 rfl <| Runs.iconst d0_450 ci_3 <| ?_
        refine ite_el hf (fun hc51 hf => ?_) (fun hc51 hf => ?_)
        · refine Runs.icN d0_451 (teq hc51).2 <| ?_
          exact Runs.lload d0_454 rfl <| Runs.lstore (P' := [vr sa, vr C.2.2.1, vl l2, v2, vl l4, v2, vl l6, v2, vl l20, v2, vi i10, vi i11, vi i12, vi i13, vi i14, vi i15, vn, vi i17, vn, vn, vl l20, v2, vi i22, vi i23, vn, vn, vn, vn]) d0_456 (by decide) rfl <| Runs.iload d0_458 rfl <| Runs.istore (P' := [vr sa, vr C.2.2.1, vl l2, v2, vl l4, v2, vl l6, v2, vl l20, v2, vi i10, vi i11, vi i12, vi i22, vi i14, vi i15, vn, vi i17, vn, vn, vl l20, v2, vi i22, vi i23, vn, vn, vn, vn]) d0_460 (by decide) rfl <| Runs.forget [true, true, true, true, true, true, true, true, true, true, true, true, true, true, true, true, false, false, false, false, false, false, false, true, false, false, false, false] rfl <| L_law_b462_p hs k43 hk43 ob l2 l4 l6 l20 i10 i11 i12 i22 i14 i15 i23 hf
        · exact Runs.icY (pc' := 462) d0_451 (feq hc51).2 (by decide) <| Runs.forget [true, true, true, true, true, true, true, true, true, true, true, true, true, true, true, true, false, false, false, false, false, false, false, true, false, false, false, false] rfl <| L_law_b462_p hs k43 hk43 ob l2 l4 l6 l8 i10 i11 i12 i13 i14 i15 i23 hf
def L_law_b383 (NF : Nat) (z : Int32) (f : Int32 → Int32) (k43 : Rec → Int64 → Int64 → Int64 → Int64 → Int32 → Int32 → Int32 → Int32 → Int32 → Int32 → Option (Int32)) (ob : Rec) (l2 : Int64) (l4 : Int64) (l6 : Int64) (l8 : Int64) (i10 : Int32) (i11 : Int32) (i12 : Int32) (i13 : Int32) (i14 : Int32) (i15 : Int32) (i17 : Int32) (l20 : Int64) (i22 : Int32) (i23 : Int32) : Option (Int32) :=
  if i23 = (0 : Int32) then
    (X_isSuspended ob i17).bind fun r45 =>
    if r45 = (0 : Int32) then
      L_law_b399 NF z f k43 ob l2 l4 l6 l8 i10 i11 i12 i13 i14 i15 i17 l20 i22 i23
    else
      some (0 : Int32)
  else
    L_law_b399 NF z f k43 ob l2 l4 l6 l8 i10 i11 i12 i13 i14 i15 i17 l20 i22 i23
set_option maxRecDepth 65536 in
set_option maxHeartbeats 4000000 in
theorem L_law_b383_p {C : Ctx} {sa : Nat} {z : Int32} {f : Int32 → Int32} (hs : ScrF C sa z f) {res : Int32} {NF : Nat} (k43 : Rec → Int64 → Int64 → Int64 → Int64 → Int32 → Int32 → Int32 → Int32 → Int32 → Int32 → Option (Int32)) (hk43 : ∀ (ob : Rec) (l2 : Int64) (l4 : Int64) (l6 : Int64) (l8 : Int64) (i10 : Int32) (i11 : Int32) (i12 : Int32) (i13 : Int32) (i14 : Int32) (i15 : Int32), k43 ob l2 l4 l6 l8 i10 i11 i12 i13 i14 i15 = some res → Runs C B0 19 978 43 [vr sa, vr C.2.2.1, vl l2, v2, vl l4, v2, vl l6, v2, vl l8, v2, vi i10, vi i11, vi i12, vi i13, vi i14, vi i15, vn, vn, vn, vn, vn, vn, vn, vn, vn, vn, vn, vn] [] (C.2.2.1 + 1 + 18, (C.2.2.1, 18, ob) :: []) (fun v _ => v = (some (.int res)))) (ob : Rec) (l2 : Int64) (l4 : Int64) (l6 : Int64) (l8 : Int64) (i10 : Int32) (i11 : Int32) (i12 : Int32) (i13 : Int32) (i14 : Int32) (i15 : Int32) (i17 : Int32) (l20 : Int64) (i22 : Int32) (i23 : Int32) (hf : L_law_b383 NF z f k43 ob l2 l4 l6 l8 i10 i11 i12 i13 i14 i15 i17 l20 i22 i23 = some res) : Runs C B0 19 978 383 [vr sa, vr C.2.2.1, vl l2, v2, vl l4, v2, vl l6, v2, vl l8, v2, vi i10, vi i11, vi i12, vi i13, vi i14, vi i15, vn, vi i17, vn, vn, vl l20, v2, vi i22, vi i23, vn, vn, vn, vn] [] (C.2.2.1 + 1 + 18, (C.2.2.1, 18, ob) :: []) (fun v _ => v = (some (.int res))) := by
  delta L_law_b383 at hf
  refine Runs.iload d0_383 rfl <| ?_
  refine ite_el hf (fun hc44 hf => ?_) (fun hc44 hf => ?_)
  · refine Runs.ifN d0_385 (teq hc44).2 <| ?_
    refine Runs.aloadN d0_388 rfl <| Runs.iload d0_389 rfl <| ?_
    refine bind_el hf fun r45 hg46 hf => ?_
    refine Runs.callV (N := B3) (W := 0) (as := [.int i17]) (S' := []) d0_391 w68 w69 w70 w71 cw3 ar3 rk0_3_0 (by decide) rfl rfl (X_isSuspended_pay hg46) <| ans1 <| ?_
    refine ite_el hf (fun hc47 hf => ?_) (fun hc47 hf => ?_)
    · exact Runs.ifY (pc' := 399) d0_394 (teq hc47).1 (by decide) <| L_law_b399_p hs k43 hk43 ob l2 l4 l6 l8 i10 i11 i12 i13 i14 i15 i17 l20 i22 i23 hf
    · refine Runs.ifN d0_394 (feq hc47).1 <| ?_
      obtain rfl := Option.some.inj hf
      exact Runs.iconst d0_397 ci_0 <| Runs.retZ (y := (0 : Int32)) d0_398 rfl ⟨by decide, by decide⟩ rfl rfl
  · exact Runs.ifY (pc' := 399) d0_385 (feq hc44).2 (by decide) <| L_law_b399_p hs k43 hk43 ob l2 l4 l6 l8 i10 i11 i12 i13 i14 i15 i17 l20 i22 i23 hf
def L_law_b185 (NF : Nat) (z : Int32) (f : Int32 → Int32) (k43 : Rec → Int64 → Int64 → Int64 → Int64 → Int32 → Int32 → Int32 → Int32 → Int32 → Int32 → Option (Int32)) (ob : Rec) (l2 : Int64) (l4 : Int64) (l6 : Int64) (l8 : Int64) (i10 : Int32) (i11 : Int32) (i12 : Int32) (i13 : Int32) (i14 : Int32) (i15 : Int32) (i17 : Int32) (i19 : Int32) (l20 : Int64) (i22 : Int32) (t0 : Int32) : Option (Int32) :=
  bind2 (X_release NF ob i17) fun r18 q19 =>
  if r18 = t0 then
    if t0 = (0 : Int32) then
      if i19 = (0 : Int32) then
        L_law_b383 NF z f k43 q19 l2 l4 l6 l8 i10 i11 i12 i13 i14 i15 i17 (0 : Int64) (0 : Int32) t0
      else
        L_law_b383 NF z f k43 q19 l2 l4 l6 l8 i10 i11 i12 i13 (i14 + (1 : Int32)) i15 i17 (0 : Int64) (0 : Int32) t0
    else
      L_law_b383 NF z f k43 q19 l2 l4 l6 l8 i10 i11 i12 i13 i14 i15 i17 l20 i22 t0
  else
    some (0 : Int32)
set_option maxRecDepth 65536 in
set_option maxHeartbeats 4000000 in
theorem L_law_b185_p {C : Ctx} {sa : Nat} {z : Int32} {f : Int32 → Int32} (hs : ScrF C sa z f) {res : Int32} {NF : Nat} (k43 : Rec → Int64 → Int64 → Int64 → Int64 → Int32 → Int32 → Int32 → Int32 → Int32 → Int32 → Option (Int32)) (hk43 : ∀ (ob : Rec) (l2 : Int64) (l4 : Int64) (l6 : Int64) (l8 : Int64) (i10 : Int32) (i11 : Int32) (i12 : Int32) (i13 : Int32) (i14 : Int32) (i15 : Int32), k43 ob l2 l4 l6 l8 i10 i11 i12 i13 i14 i15 = some res → Runs C B0 19 978 43 [vr sa, vr C.2.2.1, vl l2, v2, vl l4, v2, vl l6, v2, vl l8, v2, vi i10, vi i11, vi i12, vi i13, vi i14, vi i15, vn, vn, vn, vn, vn, vn, vn, vn, vn, vn, vn, vn] [] (C.2.2.1 + 1 + 18, (C.2.2.1, 18, ob) :: []) (fun v _ => v = (some (.int res)))) (ob : Rec) (l2 : Int64) (l4 : Int64) (l6 : Int64) (l8 : Int64) (i10 : Int32) (i11 : Int32) (i12 : Int32) (i13 : Int32) (i14 : Int32) (i15 : Int32) (i17 : Int32) (i19 : Int32) (l20 : Int64) (i22 : Int32) (t0 : Int32) (hf : L_law_b185 NF z f k43 ob l2 l4 l6 l8 i10 i11 i12 i13 i14 i15 i17 i19 l20 i22 t0 = some res) : Runs C B0 19 978 185 [vr sa, vr C.2.2.1, vl l2, v2, vl l4, v2, vl l6, v2, vl l8, v2, vi i10, vi i11, vi i12, vi i13, vi i14, vi i15, vn, vi i17, vn, vi i19, vl l20, v2, vi i22, vn, vn, vn, vn, vn] [.int t0] (C.2.2.1 + 1 + 18, (C.2.2.1, 18, ob) :: []) (fun v _ => v = (some (.int res))) := by
  delta L_law_b185 at hf
  refine Runs.istore (P' := [vr sa, vr C.2.2.1, vl l2, v2, vl l4, v2, vl l6, v2, vl l8, v2, vi i10, vi i11, vi i12, vi i13, vi i14, vi i15, vn, vi i17, vn, vi i19, vl l20, v2, vi i22, vi t0, vn, vn, vn, vn]) d0_185 (by decide) rfl <| Runs.aloadN d0_187 rfl <| Runs.iload d0_188 rfl <| ?_
  refine bind2_el hf fun r18 q19 hg20 hf => ?_
  refine Runs.callV (N := B26) (W := 0) (as := [.int i17]) (S' := []) d0_190 w175 w176 w177 w178 cw26 ar26 rk0_26_0 (by decide) rfl rfl (X_release_pay hg20) <| ans1 <| Runs.iload d0_193 rfl <| ?_
  refine ite_el hf (fun hc21 hf => ?_) (fun hc21 hf => ?_)
  · refine Runs.icY (pc' := 200) d0_195 (teq hc21).1 (by decide) <| ?_
    refine Runs.iload d0_200 rfl <| ?_
    refine ite_el hf (fun hc22 hf => ?_) (fun hc22 hf => ?_)
    · refine Runs.ifN d0_202 (teq hc22).2 <| ?_
      refine Runs.lconst d0_205 cl_0 <| Runs.lstore (P' := [vr sa, vr C.2.2.1, vl l2, v2, vl l4, v2, vl l6, v2, vl l8, v2, vi i10, vi i11, vi i12, vi i13, vi i14, vi i15, vn, vi i17, vn, vi i19, vl (0 : Int64), v2, vi i22, vi t0, vn, vn, vn, vn]) d0_206 (by decide) rfl <| Runs.iconst d0_208 ci_0 <| Runs.istore (P' := [vr sa, vr C.2.2.1, vl l2, v2, vl l4, v2, vl l6, v2, vl l8, v2, vi i10, vi i11, vi i12, vi i13, vi i14, vi i15, vn, vi i17, vn, vi i19, vl (0 : Int64), v2, vi (0 : Int32), vi t0, vn, vn, vn, vn]) d0_209 (by decide) rfl <| Runs.iload d0_211 rfl <| ?_
      refine ite_el hf (fun hc23 hf => ?_) (fun hc23 hf => ?_)
      · exact Runs.ifY (pc' := 383) d0_213 (teq hc23).1 (by decide) <| Runs.forget [true, true, true, true, true, true, true, true, true, true, true, true, true, true, true, true, false, true, false, false, true, true, true, true, false, false, false, false] rfl <| L_law_b383_p hs k43 hk43 q19 l2 l4 l6 l8 i10 i11 i12 i13 i14 i15 i17 (0 : Int64) (0 : Int32) t0 hf
      · refine Runs.ifN d0_213 (feq hc23).1 <| ?_
        exact Runs.iinc (P' := [vr sa, vr C.2.2.1, vl l2, v2, vl l4, v2, vl l6, v2, vl l8, v2, vi i10, vi i11, vi i12, vi i13, vi (i14 + (1 : Int32)), vi i15, vn, vi i17, vn, vi i19, vl (0 : Int64), v2, vi (0 : Int32), vi t0, vn, vn, vn, vn]) d0_216 ci_1 rfl (by decide) rfl <| Runs.goto (pc' := 383) d0_219 (by decide) <| Runs.forget [true, true, true, true, true, true, true, true, true, true, true, true, true, true, true, true, false, true, false, false, true, true, true, true, false, false, false, false] rfl <| L_law_b383_p hs k43 hk43 q19 l2 l4 l6 l8 i10 i11 i12 i13 (i14 + (1 : Int32)) i15 i17 (0 : Int64) (0 : Int32) t0 hf
    · exact Runs.ifY (pc' := 383) d0_202 (feq hc22).2 (by decide) <| Runs.forget [true, true, true, true, true, true, true, true, true, true, true, true, true, true, true, true, false, true, false, false, true, true, true, true, false, false, false, false] rfl <| L_law_b383_p hs k43 hk43 q19 l2 l4 l6 l8 i10 i11 i12 i13 i14 i15 i17 l20 i22 t0 hf
  · refine Runs.icN d0_195 (feq hc21).1 <| ?_
    obtain rfl := Option.some.inj hf
    exact Runs.iconst d0_198 ci_0 <| Runs.retZ (y := (0 : Int32)) d0_199 rfl ⟨by decide, by decide⟩ rfl rfl
def L_law_b360 (NF : Nat) (z : Int32) (f : Int32 → Int32) (k43 : Rec → Int64 → Int64 → Int64 → Int64 → Int32 → Int32 → Int32 → Int32 → Int32 → Int32 → Option (Int32)) (ob : Rec) (l2 : Int64) (l4 : Int64) (l6 : Int64) (l8 : Int64) (i10 : Int32) (i11 : Int32) (i12 : Int32) (i13 : Int32) (i14 : Int32) (i15 : Int32) (i17 : Int32) (i18 : Int32) (l20 : Int64) (i22 : Int32) (i23 : Int32) : Option (Int32) :=
  if i23 = (0 : Int32) then
    (X_inWorkingSet ob i17 (i18 / (4 : Int32))).bind fun r41 =>
    if r41 = (0 : Int32) then
      some (0 : Int32)
    else
      L_law_b383 NF z f k43 ob l2 l4 l6 l8 i10 i11 i12 i13 i14 i15 i17 l20 (i22 + (1 : Int32)) i23
  else
    L_law_b383 NF z f k43 ob l2 l4 l6 l8 i10 i11 i12 i13 i14 i15 i17 l20 i22 i23
set_option maxRecDepth 65536 in
set_option maxHeartbeats 4000000 in
theorem L_law_b360_p {C : Ctx} {sa : Nat} {z : Int32} {f : Int32 → Int32} (hs : ScrF C sa z f) {res : Int32} {NF : Nat} (k43 : Rec → Int64 → Int64 → Int64 → Int64 → Int32 → Int32 → Int32 → Int32 → Int32 → Int32 → Option (Int32)) (hk43 : ∀ (ob : Rec) (l2 : Int64) (l4 : Int64) (l6 : Int64) (l8 : Int64) (i10 : Int32) (i11 : Int32) (i12 : Int32) (i13 : Int32) (i14 : Int32) (i15 : Int32), k43 ob l2 l4 l6 l8 i10 i11 i12 i13 i14 i15 = some res → Runs C B0 19 978 43 [vr sa, vr C.2.2.1, vl l2, v2, vl l4, v2, vl l6, v2, vl l8, v2, vi i10, vi i11, vi i12, vi i13, vi i14, vi i15, vn, vn, vn, vn, vn, vn, vn, vn, vn, vn, vn, vn] [] (C.2.2.1 + 1 + 18, (C.2.2.1, 18, ob) :: []) (fun v _ => v = (some (.int res)))) (ob : Rec) (l2 : Int64) (l4 : Int64) (l6 : Int64) (l8 : Int64) (i10 : Int32) (i11 : Int32) (i12 : Int32) (i13 : Int32) (i14 : Int32) (i15 : Int32) (i17 : Int32) (i18 : Int32) (l20 : Int64) (i22 : Int32) (i23 : Int32) (hf : L_law_b360 NF z f k43 ob l2 l4 l6 l8 i10 i11 i12 i13 i14 i15 i17 i18 l20 i22 i23 = some res) : Runs C B0 19 978 360 [vr sa, vr C.2.2.1, vl l2, v2, vl l4, v2, vl l6, v2, vl l8, v2, vi i10, vi i11, vi i12, vi i13, vi i14, vi i15, vn, vi i17, vi i18, vn, vl l20, v2, vi i22, vi i23, vn, vn, vn, vn] [] (C.2.2.1 + 1 + 18, (C.2.2.1, 18, ob) :: []) (fun v _ => v = (some (.int res))) := by
  delta L_law_b360 at hf
  refine Runs.iload d0_360 rfl <| ?_
  refine ite_el hf (fun hc40 hf => ?_) (fun hc40 hf => ?_)
  · refine Runs.ifN d0_362 (teq hc40).2 <| ?_
    refine Runs.iinc (P' := [vr sa, vr C.2.2.1, vl l2, v2, vl l4, v2, vl l6, v2, vl l8, v2, vi i10, vi i11, vi i12, vi i13, vi i14, vi i15, vn, vi i17, vi i18, vn, vl l20, v2, vi (i22 + (1 : Int32)), vi i23, vn, vn, vn, vn]) d0_365 ci_1 rfl (by decide) rfl <| Runs.aloadN d0_368 rfl <| Runs.iload d0_369 rfl <| Runs.iload d0_371 rfl <| Runs.iconst d0_373 ci_4 <| Runs.idiv d0_374 (by decide) <| ?_
    refine bind_el hf fun r41 hg42 hf => ?_
    refine Runs.callV (N := B15) (W := 0) (as := [.int i17, .int (i18 / (4 : Int32))]) (S' := []) d0_375 w119 w120 w121 w122 cw15 ar15 rk0_15_0 (by decide) rfl rfl (X_inWorkingSet_pay hg42) <| ans1 <| ?_
    refine ite_el hf (fun hc43 hf => ?_) (fun hc43 hf => ?_)
    · refine Runs.ifN d0_378 (teq hc43).2 <| ?_
      obtain rfl := Option.some.inj hf
      exact Runs.iconst d0_381 ci_0 <| Runs.retZ (y := (0 : Int32)) d0_382 rfl ⟨by decide, by decide⟩ rfl rfl
    · exact Runs.ifY (pc' := 383) d0_378 (feq hc43).2 (by decide) <| Runs.forget [true, true, true, true, true, true, true, true, true, true, true, true, true, true, true, true, false, true, false, false, true, true, true, true, false, false, false, false] rfl <| L_law_b383_p hs k43 hk43 ob l2 l4 l6 l8 i10 i11 i12 i13 i14 i15 i17 l20 (i22 + (1 : Int32)) i23 hf
  · exact Runs.ifY (pc' := 383) d0_362 (feq hc40).2 (by decide) <| Runs.forget [true, true, true, true, true, true, true, true, true, true, true, true, true, true, true, true, false, true, false, false, true, true, true, true, false, false, false, false] rfl <| L_law_b383_p hs k43 hk43 ob l2 l4 l6 l8 i10 i11 i12 i13 i14 i15 i17 l20 i22 i23 hf
def L_law_b307 (NF : Nat) (z : Int32) (f : Int32 → Int32) (k43 : Rec → Int64 → Int64 → Int64 → Int64 → Int32 → Int32 → Int32 → Int32 → Int32 → Int32 → Option (Int32)) (ob : Rec) (l2 : Int64) (l4 : Int64) (l6 : Int64) (l8 : Int64) (i10 : Int32) (i11 : Int32) (i12 : Int32) (i13 : Int32) (i14 : Int32) (i15 : Int32) (i17 : Int32) (i18 : Int32) (l20 : Int64) (i22 : Int32) (i23 : Int32) (l24 : Int64) (l26 : Int64) : Option (Int32) :=
  if l24 = l26 then
    L_law_b360 NF z f k43 ob l2 l4 l6 l8 i10 i11 i12 i13 i14 i15 i17 i18 l20 i22 i23
  else
    some (0 : Int32)
set_option maxRecDepth 65536 in
set_option maxHeartbeats 4000000 in
theorem L_law_b307_p {C : Ctx} {sa : Nat} {z : Int32} {f : Int32 → Int32} (hs : ScrF C sa z f) {res : Int32} {NF : Nat} (k43 : Rec → Int64 → Int64 → Int64 → Int64 → Int32 → Int32 → Int32 → Int32 → Int32 → Int32 → Option (Int32)) (hk43 : ∀ (ob : Rec) (l2 : Int64) (l4 : Int64) (l6 : Int64) (l8 : Int64) (i10 : Int32) (i11 : Int32) (i12 : Int32) (i13 : Int32) (i14 : Int32) (i15 : Int32), k43 ob l2 l4 l6 l8 i10 i11 i12 i13 i14 i15 = some res → Runs C B0 19 978 43 [vr sa, vr C.2.2.1, vl l2, v2, vl l4, v2, vl l6, v2, vl l8, v2, vi i10, vi i11, vi i12, vi i13, vi i14, vi i15, vn, vn, vn, vn, vn, vn, vn, vn, vn, vn, vn, vn] [] (C.2.2.1 + 1 + 18, (C.2.2.1, 18, ob) :: []) (fun v _ => v = (some (.int res)))) (ob : Rec) (l2 : Int64) (l4 : Int64) (l6 : Int64) (l8 : Int64) (i10 : Int32) (i11 : Int32) (i12 : Int32) (i13 : Int32) (i14 : Int32) (i15 : Int32) (i17 : Int32) (i18 : Int32) (l20 : Int64) (i22 : Int32) (i23 : Int32) (l24 : Int64) (l26 : Int64) (hf : L_law_b307 NF z f k43 ob l2 l4 l6 l8 i10 i11 i12 i13 i14 i15 i17 i18 l20 i22 i23 l24 l26 = some res) : Runs C B0 19 978 307 [vr sa, vr C.2.2.1, vl l2, v2, vl l4, v2, vl l6, v2, vl l8, v2, vi i10, vi i11, vi i12, vi i13, vi i14, vi i15, vn, vi i17, vi i18, vn, vl l20, v2, vi i22, vi i23, vl l24, v2, vl l26, v2] [] (C.2.2.1 + 1 + 18, (C.2.2.1, 18, ob) :: []) (fun v _ => v = (some (.int res))) := by
  delta L_law_b307 at hf
  refine Runs.lload d0_307 rfl <| Runs.lload d0_309 rfl <| Runs.lcmp d0_311 <| ?_
  refine ite_el hf (fun hc39 hf => ?_) (fun hc39 hf => ?_)
  · refine Runs.ifY (pc' := 317) d0_312 (teq ((lw_eq _ _).mpr hc39)).1 (by decide) <| ?_
    exact Runs.goto (pc' := 360) d0_317 (by decide) <| Runs.forget [true, true, true, true, true, true, true, true, true, true, true, true, true, true, true, true, false, true, true, false, true, true, true, true, false, false, false, false] rfl <| L_law_b360_p hs k43 hk43 ob l2 l4 l6 l8 i10 i11 i12 i13 i14 i15 i17 i18 l20 i22 i23 hf
  · refine Runs.ifN d0_312 (feq (fun u => hc39 ((lw_eq _ _).mp u))).1 <| ?_
    obtain rfl := Option.some.inj hf
    exact Runs.iconst d0_315 ci_0 <| Runs.retZ (y := (0 : Int32)) d0_316 rfl ⟨by decide, by decide⟩ rfl rfl
def L_law_b253 (NF : Nat) (z : Int32) (f : Int32 → Int32) (k43 : Rec → Int64 → Int64 → Int64 → Int64 → Int32 → Int32 → Int32 → Int32 → Int32 → Int32 → Option (Int32)) (ob : Rec) (l2 : Int64) (l4 : Int64) (l6 : Int64) (l8 : Int64) (i10 : Int32) (i11 : Int32) (i12 : Int32) (i13 : Int32) (i14 : Int32) (i15 : Int32) (i16 : Int32) (i17 : Int32) (i18 : Int32) (l20 : Int64) (i22 : Int32) (t0 : Int32) : Option (Int32) :=
  if i16 < (3 : Int32) then
    bind2 (X_load NF ob i17 i18) fun r25 q26 =>
    if t0 = (0 : Int32) then
      if (((l20.toUInt64 >>> (i18 &&& 0x3f).toInt64.toUInt64).toInt64) &&& (1 : Int64)) = (0 : Int64) then
        L_law_b307 NF z f k43 q26 l2 l4 l6 l8 i10 i11 i12 i13 i14 i15 i17 i18 l20 i22 t0 r25 (0 : Int64)
      else
        (L_val i17 i18).bind fun r30 =>
        L_law_b307 NF z f k43 q26 l2 l4 l6 l8 i10 i11 i12 i13 i14 i15 i17 i18 l20 i22 t0 r25 r30.toInt64
    else
      L_law_b307 NF z f k43 q26 l2 l4 l6 l8 i10 i11 i12 i13 i14 i15 i17 i18 l20 i22 t0 r25 (-9223372036854775808 : Int64)
  else
    (L_val i17 i18).bind fun r32 =>
    bind2 (X_store NF ob i17 i18 r32) fun r34 q35 =>
    if r34 = t0 then
      if t0 = (0 : Int32) then
        L_law_b360 NF z f k43 q35 l2 l4 l6 l8 i10 i11 i12 i13 i14 i15 i17 i18 (l20 ||| ((1 : Int64) <<< (i18 &&& 0x3f).toInt64)) i22 t0
      else
        L_law_b360 NF z f k43 q35 l2 l4 l6 l8 i10 i11 i12 i13 i14 i15 i17 i18 l20 i22 t0
    else
      some (0 : Int32)
set_option maxRecDepth 65536 in
set_option maxHeartbeats 4000000 in
theorem L_law_b253_p {C : Ctx} {sa : Nat} {z : Int32} {f : Int32 → Int32} (hs : ScrF C sa z f) {res : Int32} {NF : Nat} (k43 : Rec → Int64 → Int64 → Int64 → Int64 → Int32 → Int32 → Int32 → Int32 → Int32 → Int32 → Option (Int32)) (hk43 : ∀ (ob : Rec) (l2 : Int64) (l4 : Int64) (l6 : Int64) (l8 : Int64) (i10 : Int32) (i11 : Int32) (i12 : Int32) (i13 : Int32) (i14 : Int32) (i15 : Int32), k43 ob l2 l4 l6 l8 i10 i11 i12 i13 i14 i15 = some res → Runs C B0 19 978 43 [vr sa, vr C.2.2.1, vl l2, v2, vl l4, v2, vl l6, v2, vl l8, v2, vi i10, vi i11, vi i12, vi i13, vi i14, vi i15, vn, vn, vn, vn, vn, vn, vn, vn, vn, vn, vn, vn] [] (C.2.2.1 + 1 + 18, (C.2.2.1, 18, ob) :: []) (fun v _ => v = (some (.int res)))) (ob : Rec) (l2 : Int64) (l4 : Int64) (l6 : Int64) (l8 : Int64) (i10 : Int32) (i11 : Int32) (i12 : Int32) (i13 : Int32) (i14 : Int32) (i15 : Int32) (i16 : Int32) (i17 : Int32) (i18 : Int32) (l20 : Int64) (i22 : Int32) (t0 : Int32) (hf : L_law_b253 NF z f k43 ob l2 l4 l6 l8 i10 i11 i12 i13 i14 i15 i16 i17 i18 l20 i22 t0 = some res) : Runs C B0 19 978 253 [vr sa, vr C.2.2.1, vl l2, v2, vl l4, v2, vl l6, v2, vl l8, v2, vi i10, vi i11, vi i12, vi i13, vi i14, vi i15, vi i16, vi i17, vi i18, vn, vl l20, v2, vi i22, vn, vn, vn, vn, vn] [.int t0] (C.2.2.1 + 1 + 18, (C.2.2.1, 18, ob) :: []) (fun v _ => v = (some (.int res))) := by
  delta L_law_b253 at hf
  refine Runs.istore (P' := [vr sa, vr C.2.2.1, vl l2, v2, vl l4, v2, vl l6, v2, vl l8, v2, vi i10, vi i11, vi i12, vi i13, vi i14, vi i15, vi i16, vi i17, vi i18, vn, vl l20, v2, vi i22, vi t0, vn, vn, vn, vn]) d0_253 (by decide) rfl <| Runs.iload d0_255 rfl <| Runs.iconst d0_257 ci_3 <| ?_
  refine ite_el hf (fun hc24 hf => ?_) (fun hc24 hf => ?_)
  · refine Runs.icN d0_258 (tlt hc24).2.1 <| ?_
    refine Runs.aloadN d0_261 rfl <| Runs.iload d0_262 rfl <| Runs.iload d0_264 rfl <| ?_
    refine bind2_el hf fun r25 q26 hg27 hf => ?_
    refine Runs.callV (N := B25) (W := 0) (as := [.int i17, .int i18]) (S' := []) d0_266 w168 w169 w170 w171 cw25 ar25 rk0_25_0 (by decide) rfl rfl (X_load_pay hg27) <| ans1 <| Runs.lstore (P' := [vr sa, vr C.2.2.1, vl l2, v2, vl l4, v2, vl l6, v2, vl l8, v2, vi i10, vi i11, vi i12, vi i13, vi i14, vi i15, vi i16, vi i17, vi i18, vn, vl l20, v2, vi i22, vi t0, vl r25, v2, vn, vn]) d0_269 (by decide) rfl <| Runs.ldc2 d0_271 w173 <| Runs.lstore (P' := [vr sa, vr C.2.2.1, vl l2, v2, vl l4, v2, vl l6, v2, vl l8, v2, vi i10, vi i11, vi i12, vi i13, vi i14, vi i15, vi i16, vi i17, vi i18, vn, vl l20, v2, vi i22, vi t0, vl r25, v2, vl (-9223372036854775808 : Int64), v2]) d0_274 (by decide) rfl <| Runs.iload d0_276 rfl <| ?_
    refine ite_el hf (fun hc28 hf => ?_) (fun hc28 hf => ?_)
    · refine Runs.ifN d0_278 (teq hc28).2 <| ?_
      refine Runs.lload d0_281 rfl <| Runs.iload d0_283 rfl <| Runs.lushr d0_285 <| Runs.lconst d0_286 cl_1 <| Runs.land d0_287 <| Runs.lconst d0_288 cl_0 <| Runs.lcmp d0_289 <| ?_
      refine ite_el hf (fun hc29 hf => ?_) (fun hc29 hf => ?_)
      · refine Runs.ifY (pc' := 304) d0_290 (teq ((lw_eq _ _).mpr hc29)).1 (by decide) <| ?_
        exact Runs.lconst d0_304 cl_0 <| Runs.lstore (P' := [vr sa, vr C.2.2.1, vl l2, v2, vl l4, v2, vl l6, v2, vl l8, v2, vi i10, vi i11, vi i12, vi i13, vi i14, vi i15, vi i16, vi i17, vi i18, vn, vl l20, v2, vi i22, vi t0, vl r25, v2, vl (0 : Int64), v2]) d0_305 (by decide) rfl <| Runs.forget [true, true, true, true, true, true, true, true, true, true, true, true, true, true, true, true, false, true, true, false, true, true, true, true, true, true, true, true] rfl <| L_law_b307_p hs k43 hk43 q26 l2 l4 l6 l8 i10 i11 i12 i13 i14 i15 i17 i18 l20 i22 t0 r25 (0 : Int64) hf
      · refine Runs.ifN d0_290 (feq (fun u => hc29 ((lw_eq _ _).mp u))).1 <| ?_
        refine Runs.iload d0_293 rfl <| Runs.iload d0_295 rfl <| ?_
        refine bind_el hf fun r30 hg31 hf => ?_
        exact Runs.callS (N := B5) (W := 0) (as := [.int i17, .int i18]) (S' := []) d0_297 w77 w78 cw5 ar5 rk0_5_0 (by decide) rfl rfl (L_val_pay hg31) <| ans1 <| Runs.i2l d0_300 <| Runs.goto (pc' := 305) d0_301 (by decide) <| Runs.lstore (P' := [vr sa, vr C.2.2.1, vl l2, v2, vl l4, v2, vl l6, v2, vl l8, v2, vi i10, vi i11, vi i12, vi i13, vi i14, vi i15, vi i16, vi i17, vi i18, vn, vl l20, v2, vi i22, vi t0, vl r25, v2, vl r30.toInt64, v2]) d0_305 (by decide) rfl <| Runs.forget [true, true, true, true, true, true, true, true, true, true, true, true, true, true, true, true, false, true, true, false, true, true, true, true, true, true, true, true] rfl <| L_law_b307_p hs k43 hk43 q26 l2 l4 l6 l8 i10 i11 i12 i13 i14 i15 i17 i18 l20 i22 t0 r25 r30.toInt64 hf
    · exact Runs.ifY (pc' := 307) d0_278 (feq hc28).2 (by decide) <| Runs.forget [true, true, true, true, true, true, true, true, true, true, true, true, true, true, true, true, false, true, true, false, true, true, true, true, true, true, true, true] rfl <| L_law_b307_p hs k43 hk43 q26 l2 l4 l6 l8 i10 i11 i12 i13 i14 i15 i17 i18 l20 i22 t0 r25 (-9223372036854775808 : Int64) hf
  · refine Runs.icY (pc' := 320) d0_258 (flt hc24).2.1 (by decide) <| ?_
    refine Runs.iload d0_320 rfl <| Runs.iload d0_322 rfl <| ?_
    refine bind_el hf fun r32 hg33 hf => ?_
    refine Runs.callS (N := B5) (W := 0) (as := [.int i17, .int i18]) (S' := []) d0_324 w77 w78 cw5 ar5 rk0_5_0 (by decide) rfl rfl (L_val_pay hg33) <| ans1 <| Runs.istore (P' := [vr sa, vr C.2.2.1, vl l2, v2, vl l4, v2, vl l6, v2, vl l8, v2, vi i10, vi i11, vi i12, vi i13, vi i14, vi i15, vi i16, vi i17, vi i18, vn, vl l20, v2, vi i22, vi t0, vi r32, vn, vn, vn]) d0_327 (by decide) rfl <| Runs.aloadN d0_329 rfl <| Runs.iload d0_330 rfl <| Runs.iload d0_332 rfl <| Runs.iload d0_334 rfl <| ?_
    refine bind2_el hf fun r34 q35 hg36 hf => ?_
    refine Runs.callV (N := B6) (W := 0) (as := [.int i17, .int i18, .int r32]) (S' := []) d0_336 w81 w82 w83 w84 cw6 ar6 rk0_6_0 (by decide) rfl rfl (X_store_pay hg36) <| ans1 <| Runs.iload d0_339 rfl <| ?_
    refine ite_el hf (fun hc37 hf => ?_) (fun hc37 hf => ?_)
    · refine Runs.icY (pc' := 346) d0_341 (teq hc37).1 (by decide) <| ?_
      refine Runs.iload d0_346 rfl <| ?_
      refine ite_el hf (fun hc38 hf => ?_) (fun hc38 hf => ?_)
      · refine Runs.ifN d0_348 (teq hc38).2 <| ?_
        exact Runs.lload d0_351 rfl <| Runs.lconst d0_353 cl_1 <| Runs.iload d0_354 rfl <| Runs.lshl d0_356 <| Runs.lor d0_357 <| Runs.lstore (P' := [vr sa, vr C.2.2.1, vl l2, v2, vl l4, v2, vl l6, v2, vl l8, v2, vi i10, vi i11, vi i12, vi i13, vi i14, vi i15, vi i16, vi i17, vi i18, vn, vl (l20 ||| ((1 : Int64) <<< (i18 &&& 0x3f).toInt64)), v2, vi i22, vi t0, vi r32, vn, vn, vn]) d0_358 (by decide) rfl <| Runs.forget [true, true, true, true, true, true, true, true, true, true, true, true, true, true, true, true, false, true, true, false, true, true, true, true, false, false, false, false] rfl <| L_law_b360_p hs k43 hk43 q35 l2 l4 l6 l8 i10 i11 i12 i13 i14 i15 i17 i18 (l20 ||| ((1 : Int64) <<< (i18 &&& 0x3f).toInt64)) i22 t0 hf
      · exact Runs.ifY (pc' := 360) d0_348 (feq hc38).2 (by decide) <| Runs.forget [true, true, true, true, true, true, true, true, true, true, true, true, true, true, true, true, false, true, true, false, true, true, true, true, false, false, false, false] rfl <| L_law_b360_p hs k43 hk43 q35 l2 l4 l6 l8 i10 i11 i12 i13 i14 i15 i17 i18 l20 i22 t0 hf
    · refine Runs.icN d0_341 (feq hc37).1 <| ?_
      obtain rfl := Option.some.inj hf
      exact Runs.iconst d0_344 ci_0 <| Runs.retZ (y := (0 : Int32)) d0_345 rfl ⟨by decide, by decide⟩ rfl rfl
def L_law_b165 (NF : Nat) (z : Int32) (f : Int32 → Int32) (k43 : Rec → Int64 → Int64 → Int64 → Int64 → Int32 → Int32 → Int32 → Int32 → Int32 → Int32 → Option (Int32)) (ob : Rec) (l2 : Int64) (l4 : Int64) (l6 : Int64) (l8 : Int64) (i10 : Int32) (i11 : Int32) (i12 : Int32) (i13 : Int32) (i14 : Int32) (i15 : Int32) (i16 : Int32) (i17 : Int32) (i18 : Int32) (i19 : Int32) (l20 : Int64) (t0 : Int32) : Option (Int32) :=
  if i16 = (7 : Int32) then
    if i17 = (4 : Int32) then
      L_law_b185 NF z f k43 ob l2 l4 l6 l8 i10 i11 i12 i13 i14 i15 i17 i19 l20 t0 (1 : Int32)
    else
      L_law_b185 NF z f k43 ob l2 l4 l6 l8 i10 i11 i12 i13 i14 i15 i17 i19 l20 t0 (0 : Int32)
  else
    if i17 = (4 : Int32) then
      L_law_b253 NF z f k43 ob l2 l4 l6 l8 i10 i11 i12 i13 i14 i15 i16 i17 i18 l20 t0 (1 : Int32)
    else
      if i18 < (64 : Int32) then
        if i19 = (0 : Int32) then
          L_law_b253 NF z f k43 ob l2 l4 l6 l8 i10 i11 i12 i13 i14 i15 i16 i17 i18 l20 t0 (0 : Int32)
        else
          L_law_b253 NF z f k43 ob l2 l4 l6 l8 i10 i11 i12 i13 i14 i15 i16 i17 i18 l20 t0 (3 : Int32)
      else
        L_law_b253 NF z f k43 ob l2 l4 l6 l8 i10 i11 i12 i13 i14 i15 i16 i17 i18 l20 t0 (2 : Int32)
set_option maxRecDepth 65536 in
set_option maxHeartbeats 4000000 in
theorem L_law_b165_p {C : Ctx} {sa : Nat} {z : Int32} {f : Int32 → Int32} (hs : ScrF C sa z f) {res : Int32} {NF : Nat} (k43 : Rec → Int64 → Int64 → Int64 → Int64 → Int32 → Int32 → Int32 → Int32 → Int32 → Int32 → Option (Int32)) (hk43 : ∀ (ob : Rec) (l2 : Int64) (l4 : Int64) (l6 : Int64) (l8 : Int64) (i10 : Int32) (i11 : Int32) (i12 : Int32) (i13 : Int32) (i14 : Int32) (i15 : Int32), k43 ob l2 l4 l6 l8 i10 i11 i12 i13 i14 i15 = some res → Runs C B0 19 978 43 [vr sa, vr C.2.2.1, vl l2, v2, vl l4, v2, vl l6, v2, vl l8, v2, vi i10, vi i11, vi i12, vi i13, vi i14, vi i15, vn, vn, vn, vn, vn, vn, vn, vn, vn, vn, vn, vn] [] (C.2.2.1 + 1 + 18, (C.2.2.1, 18, ob) :: []) (fun v _ => v = (some (.int res)))) (ob : Rec) (l2 : Int64) (l4 : Int64) (l6 : Int64) (l8 : Int64) (i10 : Int32) (i11 : Int32) (i12 : Int32) (i13 : Int32) (i14 : Int32) (i15 : Int32) (i16 : Int32) (i17 : Int32) (i18 : Int32) (i19 : Int32) (l20 : Int64) (t0 : Int32) (hf : L_law_b165 NF z f k43 ob l2 l4 l6 l8 i10 i11 i12 i13 i14 i15 i16 i17 i18 i19 l20 t0 = some res) : Runs C B0 19 978 165 [vr sa, vr C.2.2.1, vl l2, v2, vl l4, v2, vl l6, v2, vl l8, v2, vi i10, vi i11, vi i12, vi i13, vi i14, vi i15, vi i16, vi i17, vi i18, vi i19, vl l20, v2, vn, vn, vn, vn, vn, vn] [.int t0] (C.2.2.1 + 1 + 18, (C.2.2.1, 18, ob) :: []) (fun v _ => v = (some (.int res))) := by
  delta L_law_b165 at hf
  refine Runs.istore (P' := [vr sa, vr C.2.2.1, vl l2, v2, vl l4, v2, vl l6, v2, vl l8, v2, vi i10, vi i11, vi i12, vi i13, vi i14, vi i15, vi i16, vi i17, vi i18, vi i19, vl l20, v2, vi t0, vn, vn, vn, vn, vn]) d0_165 (by decide) rfl <| Runs.iload d0_167 rfl <| Runs.bipush d0_169 cb_7 <| ?_
  refine ite_el hf (fun hc13 hf => ?_) (fun hc13 hf => ?_)
  · refine Runs.icN d0_171 (teq hc13).2 <| ?_
    refine Runs.iload d0_174 rfl <| Runs.iconst d0_176 ci_4 <| ?_
    refine ite_el hf (fun hc14 hf => ?_) (fun hc14 hf => ?_)
    · refine Runs.icN d0_177 (teq hc14).2 <| ?_
      exact Runs.iconst d0_180 ci_1 <| Runs.goto (pc' := 185) d0_181 (by decide) <| Runs.forget [true, true, true, true, true, true, true, true, true, true, true, true, true, true, true, true, false, true, false, true, true, true, true, false, false, false, false, false] rfl <| L_law_b185_p hs k43 hk43 ob l2 l4 l6 l8 i10 i11 i12 i13 i14 i15 i17 i19 l20 t0 (1 : Int32) hf
    · refine Runs.icY (pc' := 184) d0_177 (feq hc14).2 (by decide) <| ?_
      exact Runs.iconst d0_184 ci_0 <| Runs.forget [true, true, true, true, true, true, true, true, true, true, true, true, true, true, true, true, false, true, false, true, true, true, true, false, false, false, false, false] rfl <| L_law_b185_p hs k43 hk43 ob l2 l4 l6 l8 i10 i11 i12 i13 i14 i15 i17 i19 l20 t0 (0 : Int32) hf
  · refine Runs.icY (pc' := 222) d0_171 (feq hc13).2 (by decide) <| ?_
    refine Runs.iload d0_222 rfl <| Runs.iconst d0_224 ci_4 <| ?_
    refine ite_el hf (fun hc15 hf => ?_) (fun hc15 hf => ?_)
    · refine Runs.icN d0_225 (teq hc15).2 <| ?_
      exact Runs.iconst d0_228 ci_1 <| Runs.goto (pc' := 253) d0_229 (by decide) <| Runs.forget [true, true, true, true, true, true, true, true, true, true, true, true, true, true, true, true, true, true, true, false, true, true, true, false, false, false, false, false] rfl <| L_law_b253_p hs k43 hk43 ob l2 l4 l6 l8 i10 i11 i12 i13 i14 i15 i16 i17 i18 l20 t0 (1 : Int32) hf
    · refine Runs.icY (pc' := 232) d0_225 (feq hc15).2 (by decide) <| ?_
      refine Runs.iload d0_232 rfl <| Runs.bipush d0_234 cb_64 <| ?_
      refine ite_el hf (fun hc16 hf => ?_) (fun hc16 hf => ?_)
      · refine Runs.icY (pc' := 243) d0_236 (tlt hc16).1 (by decide) <| ?_
        refine Runs.iload d0_243 rfl <| ?_
        refine ite_el hf (fun hc17 hf => ?_) (fun hc17 hf => ?_)
        · refine Runs.ifY (pc' := 252) d0_245 (teq hc17).1 (by decide) <| ?_
          exact Runs.iconst d0_252 ci_0 <| Runs.forget [true, true, true, true, true, true, true, true, true, true, true, true, true, true, true, true, true, true, true, false, true, true, true, false, false, false, false, false] rfl <| L_law_b253_p hs k43 hk43 ob l2 l4 l6 l8 i10 i11 i12 i13 i14 i15 i16 i17 i18 l20 t0 (0 : Int32) hf
        · refine Runs.ifN d0_245 (feq hc17).1 <| ?_
          exact Runs.iconst d0_248 ci_3 <| Runs.goto (pc' := 253) d0_249 (by decide) <| Runs.forget [true, true, true, true, true, true, true, true, true, true, true, true, true, true, true, true, true, true, true, false, true, true, true, false, false, false, false, false] rfl <| L_law_b253_p hs k43 hk43 ob l2 l4 l6 l8 i10 i11 i12 i13 i14 i15 i16 i17 i18 l20 t0 (3 : Int32) hf
      · refine Runs.icN d0_236 (flt hc16).1 <| ?_
        exact Runs.iconst d0_239 ci_2 <| Runs.goto (pc' := 253) d0_240 (by decide) <| Runs.forget [true, true, true, true, true, true, true, true, true, true, true, true, true, true, true, true, true, true, true, false, true, true, true, false, false, false, false, false] rfl <| L_law_b253_p hs k43 hk43 ob l2 l4 l6 l8 i10 i11 i12 i13 i14 i15 i16 i17 i18 l20 t0 (2 : Int32) hf
def L_law_b129 (NF : Nat) (z : Int32) (f : Int32 → Int32) (k43 : Rec → Int64 → Int64 → Int64 → Int64 → Int32 → Int32 → Int32 → Int32 → Int32 → Int32 → Option (Int32)) (ob : Rec) (l2 : Int64) (l4 : Int64) (l6 : Int64) (l8 : Int64) (i10 : Int32) (i11 : Int32) (i12 : Int32) (i13 : Int32) (i14 : Int32) (i15 : Int32) (i16 : Int32) (i17 : Int32) (i18 : Int32) (i19 : Int32) (t0 : Int64) : Option (Int32) :=
  if i17 = (0 : Int32) then
    L_law_b165 NF z f k43 ob l2 l4 l6 l8 i10 i11 i12 i13 i14 i15 i16 i17 i18 i19 t0 i10
  else
    if i17 = (1 : Int32) then
      L_law_b165 NF z f k43 ob l2 l4 l6 l8 i10 i11 i12 i13 i14 i15 i16 i17 i18 i19 t0 i11
    else
      if i17 = (2 : Int32) then
        L_law_b165 NF z f k43 ob l2 l4 l6 l8 i10 i11 i12 i13 i14 i15 i16 i17 i18 i19 t0 i12
      else
        L_law_b165 NF z f k43 ob l2 l4 l6 l8 i10 i11 i12 i13 i14 i15 i16 i17 i18 i19 t0 i13
set_option maxRecDepth 65536 in
set_option maxHeartbeats 4000000 in
theorem L_law_b129_p {C : Ctx} {sa : Nat} {z : Int32} {f : Int32 → Int32} (hs : ScrF C sa z f) {res : Int32} {NF : Nat} (k43 : Rec → Int64 → Int64 → Int64 → Int64 → Int32 → Int32 → Int32 → Int32 → Int32 → Int32 → Option (Int32)) (hk43 : ∀ (ob : Rec) (l2 : Int64) (l4 : Int64) (l6 : Int64) (l8 : Int64) (i10 : Int32) (i11 : Int32) (i12 : Int32) (i13 : Int32) (i14 : Int32) (i15 : Int32), k43 ob l2 l4 l6 l8 i10 i11 i12 i13 i14 i15 = some res → Runs C B0 19 978 43 [vr sa, vr C.2.2.1, vl l2, v2, vl l4, v2, vl l6, v2, vl l8, v2, vi i10, vi i11, vi i12, vi i13, vi i14, vi i15, vn, vn, vn, vn, vn, vn, vn, vn, vn, vn, vn, vn] [] (C.2.2.1 + 1 + 18, (C.2.2.1, 18, ob) :: []) (fun v _ => v = (some (.int res)))) (ob : Rec) (l2 : Int64) (l4 : Int64) (l6 : Int64) (l8 : Int64) (i10 : Int32) (i11 : Int32) (i12 : Int32) (i13 : Int32) (i14 : Int32) (i15 : Int32) (i16 : Int32) (i17 : Int32) (i18 : Int32) (i19 : Int32) (t0 : Int64) (hf : L_law_b129 NF z f k43 ob l2 l4 l6 l8 i10 i11 i12 i13 i14 i15 i16 i17 i18 i19 t0 = some res) : Runs C B0 19 978 129 [vr sa, vr C.2.2.1, vl l2, v2, vl l4, v2, vl l6, v2, vl l8, v2, vi i10, vi i11, vi i12, vi i13, vi i14, vi i15, vi i16, vi i17, vi i18, vi i19, vn, vn, vn, vn, vn, vn, vn, vn] [.long t0] (C.2.2.1 + 1 + 18, (C.2.2.1, 18, ob) :: []) (fun v _ => v = (some (.int res))) := by
  delta L_law_b129 at hf
  refine Runs.lstore (P' := [vr sa, vr C.2.2.1, vl l2, v2, vl l4, v2, vl l6, v2, vl l8, v2, vi i10, vi i11, vi i12, vi i13, vi i14, vi i15, vi i16, vi i17, vi i18, vi i19, vl t0, v2, vn, vn, vn, vn, vn, vn]) d0_129 (by decide) rfl <| Runs.iload d0_131 rfl <| ?_
  refine ite_el hf (fun hc10 hf => ?_) (fun hc10 hf => ?_)
  · refine Runs.ifN d0_133 (teq hc10).2 <| ?_
    exact Runs.iload d0_136 rfl <| Runs.goto (pc' := 165) d0_138 (by decide) <| L_law_b165_p hs k43 hk43 ob l2 l4 l6 l8 i10 i11 i12 i13 i14 i15 i16 i17 i18 i19 t0 i10 hf
  · refine Runs.ifY (pc' := 141) d0_133 (feq hc10).2 (by decide) <| ?_
    refine Runs.iload d0_141 rfl <| Runs.iconst d0_143 ci_1 <| ?_
    refine ite_el hf (fun hc11 hf => ?_) (fun hc11 hf => ?_)
    · refine Runs.icN d0_144 (teq hc11).2 <| ?_
      exact Runs.iload d0_147 rfl <| Runs.goto (pc' := 165) d0_149 (by decide) <| L_law_b165_p hs k43 hk43 ob l2 l4 l6 l8 i10 i11 i12 i13 i14 i15 i16 i17 i18 i19 t0 i11 hf
    · refine Runs.icY (pc' := 152) d0_144 (feq hc11).2 (by decide) <| ?_
      refine Runs.iload d0_152 rfl <| Runs.iconst d0_154 ci_2 <| ?_
      refine ite_el hf (fun hc12 hf => ?_) (fun hc12 hf => ?_)
      · refine Runs.icN d0_155 (teq hc12).2 <| ?_
        exact Runs.iload d0_158 rfl <| Runs.goto (pc' := 165) d0_160 (by decide) <| L_law_b165_p hs k43 hk43 ob l2 l4 l6 l8 i10 i11 i12 i13 i14 i15 i16 i17 i18 i19 t0 i12 hf
      · refine Runs.icY (pc' := 163) d0_155 (feq hc12).2 (by decide) <| ?_
        exact Runs.iload d0_163 rfl <| L_law_b165_p hs k43 hk43 ob l2 l4 l6 l8 i10 i11 i12 i13 i14 i15 i16 i17 i18 i19 t0 i13 hf
def L_law_w43 (NF : Nat) (z : Int32) (f : Int32 → Int32) (k43 : Rec → Int64 → Int64 → Int64 → Int64 → Int32 → Int32 → Int32 → Int32 → Int32 → Int32 → Option (Int32)) (ob : Rec) (l2 : Int64) (l4 : Int64) (l6 : Int64) (l8 : Int64) (i10 : Int32) (i11 : Int32) (i12 : Int32) (i13 : Int32) (i14 : Int32) (i15 : Int32) : Option (Int32) :=
  if z < (i15 + (3 : Int32)) then
    some (1 : Int32)
  else
    chk z i15 <|
    chk z (i15 + (1 : Int32)) <|
    chk z (i15 + (2 : Int32)) <|
    (X_isSuspended ob (((f (i15 + (1 : Int32))) &&& (2147483647 : Int32)) % (5 : Int32))).bind fun r5 =>
    if (((f (i15 + (1 : Int32))) &&& (2147483647 : Int32)) % (5 : Int32)) = (0 : Int32) then
      L_law_b129 NF z f k43 ob l2 l4 l6 l8 i10 i11 i12 i13 i14 i15 ((f i15) &&& (7 : Int32)) (((f (i15 + (1 : Int32))) &&& (2147483647 : Int32)) % (5 : Int32)) (((f (i15 + (2 : Int32))) &&& (2147483647 : Int32)) % (66 : Int32)) r5 l2
    else
      if (((f (i15 + (1 : Int32))) &&& (2147483647 : Int32)) % (5 : Int32)) = (1 : Int32) then
        L_law_b129 NF z f k43 ob l2 l4 l6 l8 i10 i11 i12 i13 i14 i15 ((f i15) &&& (7 : Int32)) (((f (i15 + (1 : Int32))) &&& (2147483647 : Int32)) % (5 : Int32)) (((f (i15 + (2 : Int32))) &&& (2147483647 : Int32)) % (66 : Int32)) r5 l4
      else
        if (((f (i15 + (1 : Int32))) &&& (2147483647 : Int32)) % (5 : Int32)) = (2 : Int32) then
          L_law_b129 NF z f k43 ob l2 l4 l6 l8 i10 i11 i12 i13 i14 i15 ((f i15) &&& (7 : Int32)) (((f (i15 + (1 : Int32))) &&& (2147483647 : Int32)) % (5 : Int32)) (((f (i15 + (2 : Int32))) &&& (2147483647 : Int32)) % (66 : Int32)) r5 l6
        else
          L_law_b129 NF z f k43 ob l2 l4 l6 l8 i10 i11 i12 i13 i14 i15 ((f i15) &&& (7 : Int32)) (((f (i15 + (1 : Int32))) &&& (2147483647 : Int32)) % (5 : Int32)) (((f (i15 + (2 : Int32))) &&& (2147483647 : Int32)) % (66 : Int32)) r5 l8
def L_law_l43 (NF : Nat) (z : Int32) (f : Int32 → Int32) : Nat → Rec → Int64 → Int64 → Int64 → Int64 → Int32 → Int32 → Int32 → Int32 → Int32 → Int32 → Option (Int32)
  | 0, _, _, _, _, _, _, _, _, _, _, _ => none
  | n + 1, ob, l2, l4, l6, l8, i10, i11, i12, i13, i14, i15 => L_law_w43 NF z f (L_law_l43 NF z f n) ob l2 l4 l6 l8 i10 i11 i12 i13 i14 i15
set_option maxRecDepth 65536 in
set_option maxHeartbeats 4000000 in
theorem L_law_w43_p {C : Ctx} {sa : Nat} {z : Int32} {f : Int32 → Int32} (hs : ScrF C sa z f) {res : Int32} {NF : Nat} (k43 : Rec → Int64 → Int64 → Int64 → Int64 → Int32 → Int32 → Int32 → Int32 → Int32 → Int32 → Option (Int32)) (hk43 : ∀ (ob : Rec) (l2 : Int64) (l4 : Int64) (l6 : Int64) (l8 : Int64) (i10 : Int32) (i11 : Int32) (i12 : Int32) (i13 : Int32) (i14 : Int32) (i15 : Int32), k43 ob l2 l4 l6 l8 i10 i11 i12 i13 i14 i15 = some res → Runs C B0 19 978 43 [vr sa, vr C.2.2.1, vl l2, v2, vl l4, v2, vl l6, v2, vl l8, v2, vi i10, vi i11, vi i12, vi i13, vi i14, vi i15, vn, vn, vn, vn, vn, vn, vn, vn, vn, vn, vn, vn] [] (C.2.2.1 + 1 + 18, (C.2.2.1, 18, ob) :: []) (fun v _ => v = (some (.int res)))) (ob : Rec) (l2 : Int64) (l4 : Int64) (l6 : Int64) (l8 : Int64) (i10 : Int32) (i11 : Int32) (i12 : Int32) (i13 : Int32) (i14 : Int32) (i15 : Int32) (hf : L_law_w43 NF z f k43 ob l2 l4 l6 l8 i10 i11 i12 i13 i14 i15 = some res) : Runs C B0 19 978 43 [vr sa, vr C.2.2.1, vl l2, v2, vl l4, v2, vl l6, v2, vl l8, v2, vi i10, vi i11, vi i12, vi i13, vi i14, vi i15, vn, vn, vn, vn, vn, vn, vn, vn, vn, vn, vn, vn] [] (C.2.2.1 + 1 + 18, (C.2.2.1, 18, ob) :: []) (fun v _ => v = (some (.int res))) := by
  delta L_law_w43 at hf
  refine Runs.iload d0_43 rfl <| Runs.iconst d0_45 ci_3 <| Runs.iadd d0_46 <| Runs.aloadN d0_47 rfl <| Runs.lenS hs d0_48 <| ?_
  refine ite_el hf (fun hc1 hf => ?_) (fun hc1 hf => ?_)
  · refine Runs.icY (pc' := 605) d0_49 (tlt hc1).2.2.1 (by decide) <| ?_
    obtain rfl := Option.some.inj hf
    exact Runs.iconst d0_605 ci_1 <| Runs.retZ (y := (1 : Int32)) d0_606 rfl ⟨by decide, by decide⟩ rfl rfl
  · refine Runs.icN d0_49 (flt hc1).2.2.1 <| ?_
    refine Runs.aloadN d0_52 rfl <| Runs.iload d0_53 rfl <| ?_
    refine chk_el hf fun hi2 hf => ?_
    refine Runs.ialoadS hs d0_55 hi2 <| Runs.bipush d0_56 cb_7 <| Runs.iand d0_58 <| Runs.istore (P' := [vr sa, vr C.2.2.1, vl l2, v2, vl l4, v2, vl l6, v2, vl l8, v2, vi i10, vi i11, vi i12, vi i13, vi i14, vi i15, vi ((f i15) &&& (7 : Int32)), vn, vn, vn, vn, vn, vn, vn, vn, vn, vn, vn]) d0_59 (by decide) rfl <| Runs.aloadN d0_61 rfl <| Runs.iload d0_62 rfl <| Runs.iconst d0_64 ci_1 <| Runs.iadd d0_65 <| ?_
    refine chk_el hf fun hi3 hf => ?_
    refine Runs.ialoadS hs d0_66 hi3 <| Runs.ldc d0_67 w67 <| Runs.iand d0_69 <| Runs.iconst d0_70 ci_5 <| Runs.irem d0_71 (by decide) <| Runs.istore (P' := [vr sa, vr C.2.2.1, vl l2, v2, vl l4, v2, vl l6, v2, vl l8, v2, vi i10, vi i11, vi i12, vi i13, vi i14, vi i15, vi ((f i15) &&& (7 : Int32)), vi (((f (i15 + (1 : Int32))) &&& (2147483647 : Int32)) % (5 : Int32)), vn, vn, vn, vn, vn, vn, vn, vn, vn, vn]) d0_72 (by decide) rfl <| Runs.aloadN d0_74 rfl <| Runs.iload d0_75 rfl <| Runs.iconst d0_77 ci_2 <| Runs.iadd d0_78 <| ?_
    refine chk_el hf fun hi4 hf => ?_
    refine Runs.ialoadS hs d0_79 hi4 <| Runs.ldc d0_80 w67 <| Runs.iand d0_82 <| Runs.bipush d0_83 cb_66 <| Runs.irem d0_85 (by decide) <| Runs.istore (P' := [vr sa, vr C.2.2.1, vl l2, v2, vl l4, v2, vl l6, v2, vl l8, v2, vi i10, vi i11, vi i12, vi i13, vi i14, vi i15, vi ((f i15) &&& (7 : Int32)), vi (((f (i15 + (1 : Int32))) &&& (2147483647 : Int32)) % (5 : Int32)), vi (((f (i15 + (2 : Int32))) &&& (2147483647 : Int32)) % (66 : Int32)), vn, vn, vn, vn, vn, vn, vn, vn, vn]) d0_86 (by decide) rfl <| Runs.aloadN d0_88 rfl <| Runs.iload d0_89 rfl <| ?_
    refine bind_el hf fun r5 hg6 hf => ?_
    refine Runs.callV (N := B3) (W := 0) (as := [.int (((f (i15 + (1 : Int32))) &&& (2147483647 : Int32)) % (5 : Int32))]) (S' := []) d0_91 w68 w69 w70 w71 cw3 ar3 rk0_3_0 (by decide) rfl rfl (X_isSuspended_pay hg6) <| ans1 <| Runs.istore (P' := [vr sa, vr C.2.2.1, vl l2, v2, vl l4, v2, vl l6, v2, vl l8, v2, vi i10, vi i11, vi i12, vi i13, vi i14, vi i15, vi ((f i15) &&& (7 : Int32)), vi (((f (i15 + (1 : Int32))) &&& (2147483647 : Int32)) % (5 : Int32)), vi (((f (i15 + (2 : Int32))) &&& (2147483647 : Int32)) % (66 : Int32)), vi r5, vn, vn, vn, vn, vn, vn, vn, vn]) d0_94 (by decide) rfl <| Runs.iload d0_96 rfl <| ?_
    refine ite_el hf (fun hc7 hf => ?_) (fun hc7 hf => ?_)
    · refine Runs.ifN d0_98 (teq hc7).2 <| ?_
      exact Runs.lloadN d0_101 rfl <| Runs.goto (pc' := 129) d0_102 (by decide) <| L_law_b129_p hs k43 hk43 ob l2 l4 l6 l8 i10 i11 i12 i13 i14 i15 ((f i15) &&& (7 : Int32)) (((f (i15 + (1 : Int32))) &&& (2147483647 : Int32)) % (5 : Int32)) (((f (i15 + (2 : Int32))) &&& (2147483647 : Int32)) % (66 : Int32)) r5 l2 hf
    · refine Runs.ifY (pc' := 105) d0_98 (feq hc7).2 (by decide) <| ?_
      refine Runs.iload d0_105 rfl <| Runs.iconst d0_107 ci_1 <| ?_
      refine ite_el hf (fun hc8 hf => ?_) (fun hc8 hf => ?_)
      · refine Runs.icN d0_108 (teq hc8).2 <| ?_
        exact Runs.lload d0_111 rfl <| Runs.goto (pc' := 129) d0_113 (by decide) <| L_law_b129_p hs k43 hk43 ob l2 l4 l6 l8 i10 i11 i12 i13 i14 i15 ((f i15) &&& (7 : Int32)) (((f (i15 + (1 : Int32))) &&& (2147483647 : Int32)) % (5 : Int32)) (((f (i15 + (2 : Int32))) &&& (2147483647 : Int32)) % (66 : Int32)) r5 l4 hf
      · refine Runs.icY (pc' := 116) d0_108 (feq hc8).2 (by decide) <| ?_
        refine Runs.iload d0_116 rfl <| Runs.iconst d0_118 ci_2 <| ?_
        refine ite_el hf (fun hc9 hf => ?_) (fun hc9 hf => ?_)
        · refine Runs.icN d0_119 (teq hc9).2 <| ?_
          exact Runs.lload d0_122 rfl <| Runs.goto (pc' := 129) d0_124 (by decide) <| L_law_b129_p hs k43 hk43 ob l2 l4 l6 l8 i10 i11 i12 i13 i14 i15 ((f i15) &&& (7 : Int32)) (((f (i15 + (1 : Int32))) &&& (2147483647 : Int32)) % (5 : Int32)) (((f (i15 + (2 : Int32))) &&& (2147483647 : Int32)) % (66 : Int32)) r5 l6 hf
        · refine Runs.icY (pc' := 127) d0_119 (feq hc9).2 (by decide) <| ?_
          exact Runs.lload d0_127 rfl <| L_law_b129_p hs k43 hk43 ob l2 l4 l6 l8 i10 i11 i12 i13 i14 i15 ((f i15) &&& (7 : Int32)) (((f (i15 + (1 : Int32))) &&& (2147483647 : Int32)) % (5 : Int32)) (((f (i15 + (2 : Int32))) &&& (2147483647 : Int32)) % (66 : Int32)) r5 l8 hf
theorem L_law_l43_p {C : Ctx} {sa : Nat} {z : Int32} {f : Int32 → Int32} (hs : ScrF C sa z f) {res : Int32} {NF : Nat} (n : Nat) (ob : Rec) (l2 : Int64) (l4 : Int64) (l6 : Int64) (l8 : Int64) (i10 : Int32) (i11 : Int32) (i12 : Int32) (i13 : Int32) (i14 : Int32) (i15 : Int32) (hf : L_law_l43 NF z f n ob l2 l4 l6 l8 i10 i11 i12 i13 i14 i15 = some res) : Runs C B0 19 978 43 [vr sa, vr C.2.2.1, vl l2, v2, vl l4, v2, vl l6, v2, vl l8, v2, vi i10, vi i11, vi i12, vi i13, vi i14, vi i15, vn, vn, vn, vn, vn, vn, vn, vn, vn, vn, vn, vn] [] (C.2.2.1 + 1 + 18, (C.2.2.1, 18, ob) :: []) (fun v _ => v = (some (.int res))) := by
  induction n generalizing ob l2 l4 l6 l8 i10 i11 i12 i13 i14 i15 with
  | zero => cases (show (none : Option (Int32)) = some res from hf)
  | succ n ih => exact L_law_w43_p hs (L_law_l43 NF z f n) (fun ob l2 l4 l6 l8 i10 i11 i12 i13 i14 i15 h => ih _ _ _ _ _ _ _ _ _ _ _ h) ob l2 l4 l6 l8 i10 i11 i12 i13 i14 i15 hf
def L_law (NF : Nat) (z : Int32) (f : Int32 → Int32) : Option (Int32) :=
  (X_init NF (4 : Int32) (16 : Int32) (6 : Int32) (3 : Int32)).bind fun q81 =>
  L_law_l43 NF z f NF q81 (0 : Int64) (0 : Int64) (0 : Int64) (0 : Int64) (0 : Int32) (0 : Int32) (0 : Int32) (0 : Int32) (0 : Int32) (0 : Int32)
set_option maxRecDepth 65536 in
set_option maxHeartbeats 4000000 in
theorem L_law_p {C : Ctx} {sa : Nat} {z : Int32} {f : Int32 → Int32} (hs : ScrF C sa z f) {res : Int32} {NF : Nat} (hf : L_law NF z f = some res) : Runs C B0 0 0 0 [vr sa, vn, vn, vn, vn, vn, vn, vn, vn, vn, vn, vn, vn, vn, vn, vn, vn, vn, vn, vn, vn, vn, vn, vn, vn, vn, vn, vn] [] (C.2.2.1, []) (fun v _ => v = (some (.int res))) := by
  delta L_law at hf
  refine Runs.newK (k' := 1) (n' := 26) d0_0 w0 ⟨by decide, by decide⟩ rfl rfl (by intro x hx; cases hx) <| Runs.dup d0_3 rfl <| Runs.iconst d0_4 ci_4 <| Runs.bipush d0_5 cb_16 <| Runs.bipush d0_7 cb_6 <| Runs.iconst d0_9 ci_3 <| ?_
  refine bind_el hf fun q81 hg82 hf => ?_
  refine Runs.callI (N := B1) (k' := 19) (n' := 978) (W := 1) (as := [.int (4 : Int32), .int (16 : Int32), .int (6 : Int32), .int (3 : Int32)]) (S' := [.ref C.2.2.1]) d0_10 rfl rfl w3 w4 cw1 ar1 (by decide) rfl rfl rfl rfl (X_init_pay hg82) <| ans0 <| Runs.astoreN (P' := [vr sa, vr C.2.2.1, vn, vn, vn, vn, vn, vn, vn, vn, vn, vn, vn, vn, vn, vn, vn, vn, vn, vn, vn, vn, vn, vn, vn, vn, vn, vn]) d0_13 (by decide) rfl <| Runs.lconst d0_14 cl_0 <| Runs.lstoreN (P' := [vr sa, vr C.2.2.1, vl (0 : Int64), v2, vn, vn, vn, vn, vn, vn, vn, vn, vn, vn, vn, vn, vn, vn, vn, vn, vn, vn, vn, vn, vn, vn, vn, vn]) d0_15 (by decide) rfl <| Runs.lconst d0_16 cl_0 <| Runs.lstore (P' := [vr sa, vr C.2.2.1, vl (0 : Int64), v2, vl (0 : Int64), v2, vn, vn, vn, vn, vn, vn, vn, vn, vn, vn, vn, vn, vn, vn, vn, vn, vn, vn, vn, vn, vn, vn]) d0_17 (by decide) rfl <| Runs.lconst d0_19 cl_0 <| Runs.lstore (P' := [vr sa, vr C.2.2.1, vl (0 : Int64), v2, vl (0 : Int64), v2, vl (0 : Int64), v2, vn, vn, vn, vn, vn, vn, vn, vn, vn, vn, vn, vn, vn, vn, vn, vn, vn, vn, vn, vn]) d0_20 (by decide) rfl <| Runs.lconst d0_22 cl_0 <| Runs.lstore (P' := [vr sa, vr C.2.2.1, vl (0 : Int64), v2, vl (0 : Int64), v2, vl (0 : Int64), v2, vl (0 : Int64), v2, vn, vn, vn, vn, vn, vn, vn, vn, vn, vn, vn, vn, vn, vn, vn, vn, vn, vn]) d0_23 (by decide) rfl <| Runs.iconst d0_25 ci_0 <| Runs.istore (P' := [vr sa, vr C.2.2.1, vl (0 : Int64), v2, vl (0 : Int64), v2, vl (0 : Int64), v2, vl (0 : Int64), v2, vi (0 : Int32), vn, vn, vn, vn, vn, vn, vn, vn, vn, vn, vn, vn, vn, vn, vn, vn, vn]) d0_26 (by decide) rfl <| ?_
  exact Runs.iconst d0_28 ci_0 <| Runs.istore (P' := [vr sa, vr C.2.2.1, vl (0 : Int64), v2, vl (0 : Int64), v2, vl (0 : Int64), v2, vl (0 : Int64), v2, vi (0 : Int32), vi (0 : Int32), vn, vn, vn, vn, vn, vn, vn, vn, vn, vn, vn, vn, vn, vn, vn, vn]) d0_29 (by decide) rfl <| Runs.iconst d0_31 ci_0 <| Runs.istore (P' := [vr sa, vr C.2.2.1, vl (0 : Int64), v2, vl (0 : Int64), v2, vl (0 : Int64), v2, vl (0 : Int64), v2, vi (0 : Int32), vi (0 : Int32), vi (0 : Int32), vn, vn, vn, vn, vn, vn, vn, vn, vn, vn, vn, vn, vn, vn, vn]) d0_32 (by decide) rfl <| Runs.iconst d0_34 ci_0 <| Runs.istore (P' := [vr sa, vr C.2.2.1, vl (0 : Int64), v2, vl (0 : Int64), v2, vl (0 : Int64), v2, vl (0 : Int64), v2, vi (0 : Int32), vi (0 : Int32), vi (0 : Int32), vi (0 : Int32), vn, vn, vn, vn, vn, vn, vn, vn, vn, vn, vn, vn, vn, vn]) d0_35 (by decide) rfl <| Runs.iconst d0_37 ci_0 <| Runs.istore (P' := [vr sa, vr C.2.2.1, vl (0 : Int64), v2, vl (0 : Int64), v2, vl (0 : Int64), v2, vl (0 : Int64), v2, vi (0 : Int32), vi (0 : Int32), vi (0 : Int32), vi (0 : Int32), vi (0 : Int32), vn, vn, vn, vn, vn, vn, vn, vn, vn, vn, vn, vn, vn]) d0_38 (by decide) rfl <| Runs.iconst d0_40 ci_0 <| Runs.istore (P' := [vr sa, vr C.2.2.1, vl (0 : Int64), v2, vl (0 : Int64), v2, vl (0 : Int64), v2, vl (0 : Int64), v2, vi (0 : Int32), vi (0 : Int32), vi (0 : Int32), vi (0 : Int32), vi (0 : Int32), vi (0 : Int32), vn, vn, vn, vn, vn, vn, vn, vn, vn, vn, vn, vn]) d0_41 (by decide) rfl <| L_law_l43_p hs NF q81 (0 : Int64) (0 : Int64) (0 : Int64) (0 : Int64) (0 : Int32) (0 : Int32) (0 : Int32) (0 : Int32) (0 : Int32) (0 : Int32) hf
theorem L_law_pay {C : Ctx} {sa : Nat} {z : Int32} {f : Int32 → Int32} (hs : ScrF C sa z f) {res : Int32} {NF : Nat} (hf : L_law NF z f = some res) : Pays C B0 [.ref sa] (C.2.2.1, []) (fun v _ => v = (some (.int res))) :=
  Pays.of pnL (Nat.le_of_ble_eq_true rfl) (P := [vr sa, vn, vn, vn, vn, vn, vn, vn, vn, vn, vn, vn, vn, vn, vn, vn, vn, vn, vn, vn, vn, vn, vn, vn, vn, vn, vn, vn]) 27 rfl (L_law_p hs hf)
--OWED--
theorem gI_sI (ob : Rec) (k j : Nat) (v : Int32) : gI (sI ob k v) j = if j = k then v else gI ob j := rfl
theorem gI_sA (ob : Rec) (k j : Nat) (i v : Int32) : gI (sA ob k i v) j = gI ob j := rfl
theorem gI_sJ (ob : Rec) (k j : Nat) (i : Int32) (v : Int64) : gI (sJ ob k i v) j = gI ob j := rfl
theorem gA_sI (ob : Rec) (k j : Nat) (v x : Int32) : gA (sI ob k v) j x = gA ob j x := rfl
theorem gA_sA (ob : Rec) (k j : Nat) (i v x : Int32) : gA (sA ob k i v) j x = if j = k ∧ x = i then v else gA ob j x := rfl
theorem gA_sJ (ob : Rec) (k j : Nat) (i x : Int32) (v : Int64) : gA (sJ ob k i v) j x = gA ob j x := rfl
theorem gJ_sI (ob : Rec) (k j : Nat) (v x : Int32) : gJ (sI ob k v) j x = gJ ob j x := rfl
theorem gJ_sA (ob : Rec) (k j : Nat) (i v x : Int32) : gJ (sA ob k i v) j x = gJ ob j x := rfl
theorem gJ_sJ (ob : Rec) (k j : Nat) (i x : Int32) (v : Int64) : gJ (sJ ob k i v) j x = if j = k ∧ x = i then v else gJ ob j x := rfl
theorem gI_z (k : Nat) : gI zrec k = 0 := rfl
theorem gA_z (k : Nat) (i : Int32) : gA zrec k i = 0 := rfl
theorem gJ_z (k : Nat) (i : Int32) : gJ zrec k i = 0 := rfl
theorem chk_ok {γ : Type} {n i : Int32} {A : Option γ} (h : 0 ≤ i.toInt ∧ i.toInt < n.toInt) : chk n i A = A := by
  have h0 : ¬ i < 0 := by rw [Int32.lt_iff_toInt_lt]; show ¬ i.toInt < 0; omega
  have h1 : i < n := by rw [Int32.lt_iff_toInt_lt]; exact h.2
  unfold chk; rw [if_neg h0, if_pos h1]
theorem lt_i {x y : Int32} : x < y ↔ x.toInt < y.toInt := Int32.lt_iff_toInt_lt
theorem le_i {x y : Int32} : x ≤ y ↔ x.toInt ≤ y.toInt := Int32.le_iff_toInt_le
theorem eq_i32 {x y : Int32} : x = y ↔ x.toInt = y.toInt := Int32.toInt_inj.symm
theorem bm_id {n : Int} (h : -2147483648 ≤ n ∧ n < 2147483648) : n.bmod (2 ^ 32) = n := Int.bmod_eq_of_le (by omega) (by omega)
theorem ad {x y : Int32} (h : -2147483648 ≤ x.toInt + y.toInt ∧ x.toInt + y.toInt < 2147483648) : (x + y).toInt = x.toInt + y.toInt := by rw [Int32.toInt_add, bm_id h]
theorem sb {x y : Int32} (h : -2147483648 ≤ x.toInt - y.toInt ∧ x.toInt - y.toInt < 2147483648) : (x - y).toInt = x.toInt - y.toInt := by rw [Int32.toInt_sub, bm_id h]
theorem ml {x y : Int32} (h : -2147483648 ≤ x.toInt * y.toInt ∧ x.toInt * y.toInt < 2147483648) : (x * y).toInt = x.toInt * y.toInt := by rw [Int32.toInt_mul, bm_id h]
theorem bind2_some {α β γ : Type} (a : α) (b : β) (f : α → β → Option γ) : bind2 (some (a, b)) f = f a b := rfl
theorem and_b (x m : Int32) (k : Nat) (hm : m.toBitVec.toNat = k) (hk : k < 2147483648) : 0 ≤ (x &&& m).toInt ∧ (x &&& m).toInt ≤ (k : Int) := by
  have h1 : (x &&& m).toBitVec.toNat = x.toBitVec.toNat &&& m.toBitVec.toNat := by rw [Int32.toBitVec_and, BitVec.toNat_and]
  have h2 : (x &&& m).toBitVec.toNat ≤ k := by rw [h1, hm]; exact Nat.and_le_right
  have h3 : (x &&& m).toInt = ((x &&& m).toBitVec.toNat : Int) := by
    show (x &&& m).toBitVec.toInt = _
    exact BitVec.toInt_eq_toNat_of_lt (by omega)
  rw [h3]; omega
theorem mem8 (x : Int32) : (x &&& 7) ∈ ([0, 1, 2, 3, 4, 5, 6, 7] : List Int32) := by
  have h := and_b x 7 7 rfl (by omega)
  simp only [List.mem_cons, eq_i32, Int32.reduceToInt, List.not_mem_nil, or_false]
  omega
theorem mem2 (x : Int32) : (x &&& 1) ∈ ([0, 1] : List Int32) := by
  have h := and_b x 1 1 rfl (by omega)
  simp only [List.mem_cons, eq_i32, Int32.reduceToInt, List.not_mem_nil, or_false]
  omega
theorem dv {x y : Int32} (hx : 0 ≤ x.toInt) (hy : 0 < y.toInt) : (x / y).toInt = x.toInt / y.toInt := by
  rw [Int32.toInt_div, Int.tdiv_eq_ediv_of_nonneg hx]
  have h1 : x.toInt / y.toInt ≤ x.toInt := Int.ediv_le_self _ hx
  have h2 : 0 ≤ x.toInt / y.toInt := Int.ediv_nonneg hx (by omega)
  have h3 := x.toInt_lt
  exact Int.bmod_eq_of_le (by omega) (by omega)
theorem md {x y : Int32} (hx : 0 ≤ x.toInt) (_ : 0 < y.toInt) : (x % y).toInt = x.toInt % y.toInt := by
  rw [Int32.toInt_mod, Int.tmod_eq_emod_of_nonneg hx]
def n32 (n : Nat) : Int32 := Int32.ofInt (n : Int)
theorem nt (n : Nat) (h : n < 100000) : (n32 n).toInt = n := by
  unfold n32; rw [Int32.toInt_ofInt]; exact bm_id (by omega)
theorem n32_t (x : Int32) (h : 0 ≤ x.toInt) : n32 x.toInt.toNat = x := by
  unfold n32; rw [Int.toNat_of_nonneg h, Int32.ofInt_toInt]
def cN (f : Nat → Bool) : Nat → Nat
  | 0 => 0
  | n + 1 => cN f n + (if f n then 1 else 0)
theorem cN_le {f g : Nat → Bool} : ∀ n, (∀ i, i < n → f i = true → g i = true) → cN f n ≤ cN g n
  | 0, _ => Nat.le_refl 0
  | n + 1, h => by
    have h1 := cN_le n (fun i hi => h i (by omega))
    have h2 := h n (by omega)
    show cN f n + _ ≤ cN g n + _
    cases hf : f n
    · simp; omega
    · rw [h2 hf]; simp; omega
theorem cN_eq {f g : Nat → Bool} (n : Nat) (h : ∀ i, i < n → f i = g i) : cN f n = cN g n :=
  Nat.le_antisymm (cN_le n (fun i hi e => (h i hi) ▸ e)) (cN_le n (fun i hi e => (h i hi).symm ▸ e))
theorem cN_set {f g : Nat → Bool} {j : Nat} (fj : f j = false) (gj : g j = true) : ∀ n, j < n → (∀ i, i < n → i ≠ j → g i = f i) → cN g n = cN f n + 1
  | 0, h, _ => absurd h (by omega)
  | n + 1, h, e => by
    show cN g n + _ = cN f n + _ + 1
    by_cases c : j = n
    · subst c
      rw [cN_eq j (fun i hi => e i (by omega) (by omega)), fj, gj]; simp
    · rw [cN_set fj gj n (by omega) (fun i hi => e i (by omega)), e n (by omega) (fun h => c h.symm)]; omega
theorem cN_lt {f g : Nat → Bool} {j : Nat} (n : Nat) (hj : j < n) (fj : f j = false) (gj : g j = true) (h : ∀ i, i < n → f i = true → g i = true) : cN f n + 1 ≤ cN g n := by
  have := cN_set (f := f) (g := fun i => if i = j then true else f i) fj (by simp) n hj (fun i _ c => by simp [c])
  rw [← this]
  apply cN_le
  intro i hi e
  by_cases c : i = j
  · rw [c]; exact gj
  · simp only [c, if_false] at e; exact h i hi e
theorem cN_full {f : Nat → Bool} : ∀ n m, m ≤ n → (∀ i, i < m → f i = true) → m ≤ cN f n
  | 0, m, h, _ => by omega
  | n + 1, m, h, e => by
    show m ≤ cN f n + _
    by_cases c : m ≤ n
    · have := cN_full n m c e; omega
    · have := cN_full n n (Nat.le_refl n) (fun i hi => e i (by omega))
      rw [e n (by omega)]; simp; omega
abbrev In (n : Int) (x : Int32) : Prop := 0 ≤ x.toInt ∧ x.toInt < n
abbrev VI (P N x : Int32) : Prop := In 64 x ∧ x.toInt / 16 < P.toInt ∧ x.toInt % 16 < N.toInt
set_option maxHeartbeats 0 in
theorem cN_vi0 : ∀ p : Fin 5, ∀ n : Fin 17, cN (fun i => decide (i / 16 < p.val ∧ i % 16 < n.val)) 64 = p.val * n.val := by decide +kernel
def ct (pf ps fw sw : Int32 → Int32) (x w : Int32) : Int32 :=
  if pf x < 0 then (if ps x < 0 then 0 else sw (ps x * 4 + w)) else fw (pf x * 4 + w)
abbrev PM (P N F H : Int32) (pf ps fo fd fw su sw : Int32 → Int32) : Prop := (1 ≤ P.toInt ∧ P.toInt ≤ 4) ∧ (4 ≤ N.toInt ∧ N.toInt ≤ 16) ∧ (4 ≤ F.toInt ∧ F.toInt ≤ 32) ∧ (In F.toInt H) ∧ (∀ f, In F.toInt f → 0 ≤ (fo f).toInt → VI P N (fo f) ∧ pf (fo f) = f) ∧ (∀ x, In 64 x → 0 ≤ (pf x).toInt → In F.toInt (pf x) ∧ fo (pf x) = x) ∧ (∀ x, In 64 x → 0 ≤ (ps x).toInt → VI P N x ∧ In 64 (ps x) ∧ ¬ su (ps x) = 0) ∧ (∀ x y, In 64 x → In 64 y → 0 ≤ (ps x).toInt → ps x = ps y → x = y) ∧ (cN (fun i => decide (¬ su (n32 i) = 0)) 64 = cN (fun i => decide (0 ≤ (ps (n32 i)).toInt)) 64) ∧ (∀ f, In F.toInt f → 0 ≤ (fo f).toInt → fd f = 0 → ∀ w, In 4 w → fw (f * 4 + w) = (if ps (fo f) < 0 then 0 else sw (ps (fo f) * 4 + w)))
theorem PM.hP {P N F H : Int32} {pf ps fo fd fw su sw : Int32 → Int32} (h : PM P N F H pf ps fo fd fw su sw) : 1 ≤ P.toInt ∧ P.toInt ≤ 4 := h.1
theorem PM.hN {P N F H : Int32} {pf ps fo fd fw su sw : Int32 → Int32} (h : PM P N F H pf ps fo fd fw su sw) : 4 ≤ N.toInt ∧ N.toInt ≤ 16 := h.2.1
theorem PM.hF {P N F H : Int32} {pf ps fo fd fw su sw : Int32 → Int32} (h : PM P N F H pf ps fo fd fw su sw) : 4 ≤ F.toInt ∧ F.toInt ≤ 32 := h.2.2.1
theorem PM.hH {P N F H : Int32} {pf ps fo fd fw su sw : Int32 → Int32} (h : PM P N F H pf ps fo fd fw su sw) : In F.toInt H := h.2.2.2.1
theorem PM.own {P N F H : Int32} {pf ps fo fd fw su sw : Int32 → Int32} (h : PM P N F H pf ps fo fd fw su sw) : ∀ f, In F.toInt f → 0 ≤ (fo f).toInt → VI P N (fo f) ∧ pf (fo f) = f := h.2.2.2.2.1
theorem PM.frm {P N F H : Int32} {pf ps fo fd fw su sw : Int32 → Int32} (h : PM P N F H pf ps fo fd fw su sw) : ∀ x, In 64 x → 0 ≤ (pf x).toInt → In F.toInt (pf x) ∧ fo (pf x) = x := h.2.2.2.2.2.1
theorem PM.slt {P N F H : Int32} {pf ps fo fd fw su sw : Int32 → Int32} (h : PM P N F H pf ps fo fd fw su sw) : ∀ x, In 64 x → 0 ≤ (ps x).toInt → VI P N x ∧ In 64 (ps x) ∧ ¬ su (ps x) = 0 := h.2.2.2.2.2.2.1
theorem PM.inj {P N F H : Int32} {pf ps fo fd fw su sw : Int32 → Int32} (h : PM P N F H pf ps fo fd fw su sw) : ∀ x y, In 64 x → In 64 y → 0 ≤ (ps x).toInt → ps x = ps y → x = y := h.2.2.2.2.2.2.2.1
theorem PM.cnt {P N F H : Int32} {pf ps fo fd fw su sw : Int32 → Int32} (h : PM P N F H pf ps fo fd fw su sw) : cN (fun i => decide (¬ su (n32 i) = 0)) 64 = cN (fun i => decide (0 ≤ (ps (n32 i)).toInt)) 64 := h.2.2.2.2.2.2.2.2.1
theorem PM.cln {P N F H : Int32} {pf ps fo fd fw su sw : Int32 → Int32} (h : PM P N F H pf ps fo fd fw su sw) : ∀ f, In F.toInt f → 0 ≤ (fo f).toInt → fd f = 0 → ∀ w, In 4 w → fw (f * 4 + w) = (if ps (fo f) < 0 then 0 else sw (ps (fo f) * 4 + w)) := h.2.2.2.2.2.2.2.2.2
theorem neg_i {x : Int32} : x < 0 ↔ x.toInt < 0 := by rw [lt_i]; exact Iff.rfl
theorem nneg {x : Int32} (h : 0 ≤ x.toInt) : ¬ x < 0 := by rw [neg_i]; omega
theorem nneg' {x : Int32} (h : ¬ x < 0) : 0 ≤ x.toInt := by rw [neg_i] at h; omega
/-- a page without a slot: a slot is free -/
theorem PM_free {P N F H : Int32} {pf ps fo fd fw su sw : Int32 → Int32} (h : PM P N F H pf ps fo fd fw su sw) {x : Int32} (hx : VI P N x) (hs : ps x < 0) (hall : ∀ s : Int32, In (P.toInt * N.toInt) s → ¬ su s = 0) : False := by
  have h1 : cN (fun i => decide (0 ≤ (ps (n32 i)).toInt)) 64 + 1 ≤ cN (fun i => decide (i / 16 < P.toInt.toNat ∧ i % 16 < N.toInt.toNat)) 64 := by
    have hP := h.hP
    have hN := h.hN
    refine cN_lt (j := x.toInt.toNat) 64 (by omega) ?_ ?_ ?_
    · rw [n32_t x hx.1.1]; simp only [decide_eq_false_iff_not]; rw [neg_i] at hs; omega
    · simp only [decide_eq_true_eq]; have := hx.2; omega
    · intro i hi e
      simp only [decide_eq_true_eq] at e ⊢
      have := h.slt (n32 i) ⟨by rw [nt i (by omega)]; omega, by rw [nt i (by omega)]; omega⟩ e
      have := this.1.2
      rw [nt i (by omega)] at this; omega
  have hP := h.hP
  have hN := h.hN
  have h2 := cN_vi0 ⟨P.toInt.toNat, by omega⟩ ⟨N.toInt.toNat, by omega⟩
  rw [h2, ← h.cnt] at h1
  have h4 : P.toInt.toNat * N.toInt.toNat ≤ 64 := Nat.le_trans (Nat.mul_le_mul (show P.toInt.toNat ≤ 4 by omega) (show N.toInt.toNat ≤ 16 by omega)) (by omega)
  have h5 : ((P.toInt.toNat * N.toInt.toNat : Nat) : Int) = P.toInt * N.toInt := by rw [Int.natCast_mul, Int.toNat_of_nonneg (by omega), Int.toNat_of_nonneg (by omega)]
  have h3 : P.toInt.toNat * N.toInt.toNat ≤ cN (fun i => decide (¬ su (n32 i) = 0)) 64 := by
    refine cN_full 64 _ h4 ?_
    intro i hi
    simp only [decide_eq_true_eq]
    refine hall _ ⟨by rw [nt i (by omega)]; omega, by rw [nt i (by omega), ← h5]; omega⟩
  simp only at h1 h3
  omega
/-- write back of frame f, of page x, to slot s -/
theorem PM_wb {P N F H : Int32} {pf ps fo fd fw su sw ps' fd' su' sw' : Int32 → Int32} (h : PM P N F H pf ps fo fd fw su sw) {f x s : Int32} (hf : In F.toInt f) (hx : fo f = x) (hx0 : 0 ≤ x.toInt) (hs : In 64 s)
    (ho : ps x = s ∨ (ps x < 0 ∧ su s = 0)) (p1 : ps' x = s) (p2 : ∀ y, ¬ y = x → ps' y = ps y) (u1 : ¬ su' s = 0) (u2 : ∀ y, ¬ y = s → su' y = su y)
    (d1 : fd' f = 0) (d2 : ∀ y, ¬ y = f → fd' y = fd y)
    (w1 : ∀ w, In 4 w → sw' (s * 4 + w) = fw (f * 4 + w)) (w2 : ∀ t w, In 64 t → In 4 w → ¬ t = s → sw' (t * 4 + w) = sw (t * 4 + w)) :
    PM P N F H pf ps' fo fd' fw su' sw' ∧ ∀ y w, In 64 y → In 4 w → ct pf ps' fw sw' y w = ct pf ps fw sw y w := by
  have ox := h.own f hf (by rw [hx]; exact hx0)
  rw [hx] at ox
  have ns : ∀ y, In 64 y → ¬ y = x → 0 ≤ (ps y).toInt → ¬ ps y = s := by
    intro y hy c h0 e
    rcases ho with ho | ho
    · exact c (h.inj y x hy ox.1.1 h0 (e.trans ho.symm))
    · exact (h.slt y hy h0).2.2 (e ▸ ho.2)
  refine ⟨⟨h.hP, h.hN, h.hF, h.hH, h.own, h.frm, ?_, ?_, ?_, ?_⟩, ?_⟩
  · intro y hy h0
    by_cases c : y = x
    · rw [c, p1]; exact ⟨ox.1, hs, u1⟩
    · rw [p2 y c] at h0 ⊢
      have a := h.slt y hy h0
      exact ⟨a.1, a.2.1, by rw [u2 _ (ns y hy c h0)]; exact a.2.2⟩
  · intro y z hy hz h0 e
    by_cases c : y = x
    · by_cases d : z = x
      · rw [c, d]
      · rw [c, p1, p2 z d] at e
        exact absurd e.symm (ns z hz d (by rw [← e]; exact hs.1))
    · by_cases d : z = x
      · rw [d, p1, p2 y c] at e
        exact absurd e (ns y hy c (by rw [e]; exact hs.1))
      · rw [p2 y c] at h0 e; rw [p2 z d] at e
        exact h.inj y z hy hz h0 e
  · rcases ho with ho | ho
    · have e1 : ps' = ps := by
        funext y
        by_cases c : y = x
        · rw [c, p1, ho]
        · exact p2 y c
      rw [e1, ← h.cnt]
      apply cN_eq
      intro i hi
      by_cases c : n32 i = s
      · have a := h.slt x ox.1.1 (by rw [ho]; exact hs.1)
        rw [ho] at a
        rw [c]; simp [u1, a.2.2]
      · rw [u2 _ c]
    · have a1 : cN (fun i => decide (¬ su' (n32 i) = 0)) 64 = cN (fun i => decide (¬ su (n32 i) = 0)) 64 + 1 := by
        refine cN_set (j := s.toInt.toNat) ?_ ?_ 64 (by omega) ?_
        · rw [n32_t s hs.1]; simp [ho.2]
        · rw [n32_t s hs.1]; simp [u1]
        · intro i hi ne
          rw [u2 (n32 i) (fun e => ne (by rw [← e, nt i (by omega)]; omega))]
      have a2 : cN (fun i => decide (0 ≤ (ps' (n32 i)).toInt)) 64 = cN (fun i => decide (0 ≤ (ps (n32 i)).toInt)) 64 + 1 := by
        refine cN_set (j := x.toInt.toNat) ?_ ?_ 64 (by have := ox.1.1; omega) ?_
        · rw [n32_t x hx0]; have := neg_i.mp ho.1; simp; omega
        · rw [n32_t x hx0, p1]; simp; omega
        · intro i hi ne
          rw [p2 (n32 i) (fun e => ne (by rw [← e, nt i (by omega)]; omega))]
      rw [a1, a2, h.cnt]
  · intro g hg h0 hd w hw
    by_cases c : g = f
    · rw [c, hx, p1, if_neg (nneg hs.1), w1 w hw]
    · rw [d2 g c] at hd
      have ne : ¬ fo g = x := fun e => c (by rw [← (h.own g hg h0).2, e, ox.2])
      have a := h.cln g hg h0 hd w hw
      rw [p2 _ ne, a]
      by_cases n : ps (fo g) < 0
      · rw [if_pos n, if_pos n]
      · rw [if_neg n, if_neg n, w2 _ w (h.slt _ (h.own g hg h0).1.1 (nneg' n)).2.1 hw (ns _ (h.own g hg h0).1.1 ne (nneg' n))]
  · intro y w hy hw
    unfold ct
    by_cases n : pf y < 0
    · have ne : ¬ y = x := fun e => by rw [e, ox.2] at n; exact nneg hf.1 n
      rw [if_pos n, if_pos n, p2 y ne]
      by_cases m : ps y < 0
      · rw [if_pos m, if_pos m]
      · rw [if_neg m, if_neg m, w2 _ w (h.slt y hy (nneg' m)).2.1 hw (ns y hy ne (nneg' m))]
    · rw [if_neg n, if_neg n]
/-- a clean frame given up -/
theorem PM_ev {P N F H : Int32} {pf ps fo fd fw su sw pf' fo' fd' : Int32 → Int32} (h : PM P N F H pf ps fo fd fw su sw) {f x : Int32} (hf : In F.toInt f) (hx : fo f = x) (hx0 : 0 ≤ x.toInt) (hc : fd f = 0)
    (p1 : pf' x = -1) (p2 : ∀ y, ¬ y = x → pf' y = pf y) (o1 : fo' f = -1) (o2 : ∀ y, ¬ y = f → fo' y = fo y) (d2 : ∀ y, ¬ y = f → fd' y = fd y) :
    PM P N F H pf' ps fo' fd' fw su sw ∧ ∀ y w, In 64 y → In 4 w → ct pf' ps fw sw y w = ct pf ps fw sw y w := by
  have ox := h.own f hf (by rw [hx]; exact hx0)
  rw [hx] at ox
  have m1 : ¬ (0 : Int) ≤ (-1 : Int32).toInt := by decide
  refine ⟨⟨h.hP, h.hN, h.hF, h.hH, ?_, ?_, h.slt, h.inj, h.cnt, ?_⟩, ?_⟩
  · intro g hg h0
    by_cases c : g = f
    · rw [c, o1] at h0; exact absurd h0 m1
    · rw [o2 g c] at h0 ⊢
      have a := h.own g hg h0
      exact ⟨a.1, by rw [p2 _ (fun e => c (by rw [← a.2, e, ox.2]))]; exact a.2⟩
  · intro y hy h0
    by_cases c : y = x
    · rw [c, p1] at h0; exact absurd h0 m1
    · rw [p2 y c] at h0 ⊢
      have a := h.frm y hy h0
      exact ⟨a.1, by rw [o2 _ (fun e => c (by rw [← a.2, e, hx]))]; exact a.2⟩
  · intro g hg h0 hd w hw
    by_cases c : g = f
    · rw [c, o1] at h0; exact absurd h0 m1
    · rw [o2 g c] at h0 ⊢; rw [d2 g c] at hd; exact h.cln g hg h0 hd w hw
  · intro y w hy hw
    unfold ct
    by_cases c : y = x
    · rw [c, p1, if_pos (by decide), ox.2, if_neg (nneg hf.1), h.cln f hf (by rw [hx]; exact hx0) hc w hw, hx]
    · rw [p2 y c]
/-- a page brought into a free frame -/
theorem PM_fill {P N F H : Int32} {pf ps fo fd fw su sw pf' fo' fd' fw' : Int32 → Int32} (h : PM P N F H pf ps fo fd fw su sw) {f x : Int32} (hf : In F.toInt f) (hv : VI P N x) (hfr : fo f < 0) (hn : pf x < 0)
    (p1 : pf' x = f) (p2 : ∀ y, ¬ y = x → pf' y = pf y) (o1 : fo' f = x) (o2 : ∀ y, ¬ y = f → fo' y = fo y) (d2 : ∀ y, ¬ y = f → fd' y = fd y)
    (w1 : ∀ w, In 4 w → fw' (f * 4 + w) = (if ps x < 0 then 0 else sw (ps x * 4 + w))) (w2 : ∀ g w, In 32 g → In 4 w → ¬ g = f → fw' (g * 4 + w) = fw (g * 4 + w)) :
    PM P N F H pf' ps fo' fd' fw' su sw ∧ ∀ y w, In 64 y → In 4 w → ct pf' ps fw' sw y w = ct pf ps fw sw y w := by
  have nf : ∀ y, In 64 y → 0 ≤ (pf y).toInt → ¬ pf y = f := fun y hy h0 e => by
    have a := (h.frm y hy h0).2
    rw [e] at a
    rw [a] at hfr; exact nneg hy.1 hfr
  have hF := h.hF
  refine ⟨⟨h.hP, h.hN, h.hF, h.hH, ?_, ?_, h.slt, h.inj, h.cnt, ?_⟩, ?_⟩
  · intro g hg h0
    by_cases c : g = f
    · rw [c, o1, p1]; exact ⟨hv, rfl⟩
    · rw [o2 g c] at h0 ⊢
      have a := h.own g hg h0
      exact ⟨a.1, by rw [p2 _ (fun e => by rw [e] at a; rw [a.2] at hn; exact nneg hg.1 hn)]; exact a.2⟩
  · intro y hy h0
    by_cases c : y = x
    · rw [c, p1]; exact ⟨hf, o1⟩
    · rw [p2 y c] at h0 ⊢
      have a := h.frm y hy h0
      exact ⟨a.1, by rw [o2 _ (nf y hy h0)]; exact a.2⟩
  · intro g hg h0 hd w hw
    by_cases c : g = f
    · rw [c, o1, w1 w hw]
    · rw [o2 g c] at h0 ⊢; rw [d2 g c] at hd
      rw [w2 g w ⟨hg.1, by omega⟩ hw c]; exact h.cln g hg h0 hd w hw
  · intro y w hy hw
    unfold ct
    by_cases c : y = x
    · rw [c, p1, if_neg (nneg hf.1), if_pos hn, w1 w hw]
    · rw [p2 y c]
      by_cases n : pf y < 0
      · rw [if_pos n, if_pos n]
      · rw [if_neg n, if_neg n]
        have a := (h.frm y hy (nneg' n)).1
        exact w2 _ w ⟨a.1, by omega⟩ hw (nf y hy (nneg' n))
/-- a word stored -/
theorem PM_st {P N F H : Int32} {pf ps fo fd fw su sw fd' fw' : Int32 → Int32} (h : PM P N F H pf ps fo fd fw su sw) {f x o v : Int32} (hx : In 64 x) (hp : pf x = f) (hf : 0 ≤ f.toInt)
    (d1 : ¬ fd' f = 0) (d2 : ∀ y, ¬ y = f → fd' y = fd y)
    (w2 : ∀ g w, In 32 g → In 4 w → fw' (g * 4 + w) = if g = f ∧ w = o then v else fw (g * 4 + w)) :
    PM P N F H pf ps fo fd' fw' su sw ∧ ∀ y w, In 64 y → In 4 w → ct pf ps fw' sw y w = if y = x ∧ w = o then v else ct pf ps fw sw y w := by
  have hF := h.hF
  refine ⟨⟨h.hP, h.hN, h.hF, h.hH, h.own, h.frm, h.slt, h.inj, h.cnt, ?_⟩, ?_⟩
  · intro g hg h0 hd w hw
    by_cases c : g = f
    · rw [c] at hd; exact absurd hd d1
    · rw [d2 g c] at hd
      rw [w2 g w ⟨hg.1, by omega⟩ hw, if_neg (fun e => c e.1)]; exact h.cln g hg h0 hd w hw
  · intro y w hy hw
    unfold ct
    by_cases n : pf y < 0
    · have ne : ¬ y = x := fun e => by rw [e, hp] at n; exact nneg hf n
      rw [if_pos n, if_pos n, if_neg (show ¬ (y = x ∧ w = o) from fun e => ne e.1)]
    · rw [if_neg n, if_neg n]
      have a := h.frm y hy (nneg' n)
      rw [w2 _ w ⟨a.1.1, by omega⟩ hw]
      by_cases c : y = x
      · rw [c, hp]
        by_cases d : w = o
        · rw [if_pos ⟨rfl, d⟩, if_pos ⟨rfl, d⟩]
        · rw [if_neg (fun e => d e.2), if_neg (fun e => d e.2)]
      · have b := (h.frm x hx (by rw [hp]; exact hf)).2
        rw [if_neg (fun e => c (by rw [← a.2, e.1, ← hp, b])), if_neg (fun e => c e.1)]
/-- a page dropped -/
theorem PM_dis {P N F H : Int32} {pf ps fo fd fw su sw pf' ps' fo' fd' su' : Int32 → Int32} (h : PM P N F H pf ps fo fd fw su sw) {x : Int32} (hx : In 64 x)
    (p1 : pf' x < 0) (p2 : ∀ y, ¬ y = x → pf' y = pf y) (q1 : ps' x < 0) (q2 : ∀ y, ¬ y = x → ps' y = ps y)
    (o1 : 0 ≤ (pf x).toInt → fo' (pf x) = -1) (o2 : ∀ y, (0 ≤ (pf x).toInt → ¬ y = pf x) → fo' y = fo y) (d2 : ∀ y, (0 ≤ (pf x).toInt → ¬ y = pf x) → fd' y = fd y)
    (u1 : 0 ≤ (ps x).toInt → su' (ps x) = 0) (u2 : ∀ y, (0 ≤ (ps x).toInt → ¬ y = ps x) → su' y = su y) :
    PM P N F H pf' ps' fo' fd' fw su' sw ∧ ∀ y w, In 64 y → In 4 w → ct pf' ps' fw sw y w = if y = x then 0 else ct pf ps fw sw y w := by
  have m1 : ¬ (0 : Int) ≤ (-1 : Int32).toInt := by decide
  refine ⟨⟨h.hP, h.hN, h.hF, h.hH, ?_, ?_, ?_, ?_, ?_, ?_⟩, ?_⟩
  · intro g hg h0
    have c : 0 ≤ (pf x).toInt → ¬ g = pf x := fun a e => by rw [e, o1 a] at h0; exact m1 h0
    rw [o2 g c] at h0 ⊢
    have a := h.own g hg h0
    have ne : ¬ fo g = x := fun e => by rw [e] at a; exact c (by rw [a.2]; exact hg.1) a.2.symm
    exact ⟨a.1, by rw [p2 _ ne]; exact a.2⟩
  · intro y hy h0
    have c : ¬ y = x := fun e => by rw [e] at h0; exact nneg h0 p1
    rw [p2 y c] at h0 ⊢
    have a := h.frm y hy h0
    exact ⟨a.1, by rw [o2 _ (fun b e => c (by rw [← a.2, e, (h.frm x hx b).2]))]; exact a.2⟩
  · intro y hy h0
    have c : ¬ y = x := fun e => by rw [e] at h0; exact nneg h0 q1
    rw [q2 y c] at h0 ⊢
    have a := h.slt y hy h0
    exact ⟨a.1, a.2.1, by rw [u2 _ (fun b e => c (h.inj y x hy hx h0 e))]; exact a.2.2⟩
  · intro y z hy hz h0 e
    have c : ¬ y = x := fun e => by rw [e] at h0; exact nneg h0 q1
    have d : ¬ z = x := fun f => by rw [f] at e; rw [e] at h0; exact nneg h0 q1
    rw [q2 y c] at h0 e; rw [q2 z d] at e
    exact h.inj y z hy hz h0 e
  · by_cases b : 0 ≤ (ps x).toInt
    · have sx := h.slt x hx b
      have a1 : cN (fun i => decide (¬ su (n32 i) = 0)) 64 = cN (fun i => decide (¬ su' (n32 i) = 0)) 64 + 1 := by
        refine cN_set (j := (ps x).toInt.toNat) ?_ ?_ 64 (by have := sx.2.1; omega) ?_
        · rw [n32_t _ b, u1 b]; simp
        · rw [n32_t _ b]; simp [sx.2.2]
        · intro i hi ne
          rw [u2 (n32 i) (fun _ e => ne (by rw [← e, nt i (by omega)]; omega))]
      have a2 : cN (fun i => decide (0 ≤ (ps (n32 i)).toInt)) 64 = cN (fun i => decide (0 ≤ (ps' (n32 i)).toInt)) 64 + 1 := by
        refine cN_set (j := x.toInt.toNat) ?_ ?_ 64 (by omega) ?_
        · rw [n32_t x hx.1]; have := neg_i.mp q1; simp; omega
        · rw [n32_t x hx.1]; simp; omega
        · intro i hi ne
          rw [q2 (n32 i) (fun e => ne (by rw [← e, nt i (by omega)]; omega))]
      have := h.cnt; omega
    · have e1 : cN (fun i => decide (¬ su' (n32 i) = 0)) 64 = cN (fun i => decide (¬ su (n32 i) = 0)) 64 := cN_eq 64 (fun i hi => by rw [u2 _ (fun a => absurd a b)])
      rw [e1, h.cnt]
      apply cN_eq
      intro i hi
      by_cases c : n32 i = x
      · rw [c]; have := neg_i.mp q1; simp; omega
      · rw [q2 _ c]
  · intro g hg h0 hd w hw
    have c : 0 ≤ (pf x).toInt → ¬ g = pf x := fun a e => by rw [e, o1 a] at h0; exact m1 h0
    rw [o2 g c] at h0 ⊢; rw [d2 g c] at hd
    have a := h.own g hg h0
    have ne : ¬ fo g = x := fun e => by rw [e] at a; exact c (by rw [a.2]; exact hg.1) a.2.symm
    rw [q2 _ ne]; exact h.cln g hg h0 hd w hw
  · intro y w hy hw
    unfold ct
    by_cases c : y = x
    · rw [if_pos c, c, if_pos p1, if_pos q1]
    · rw [if_neg c, p2 y c, q2 y c]
theorem ix {s w : Int32} (hs : In 64 s) (hw : In 4 w) : (s * 4 + w).toInt = 4 * s.toInt + w.toInt := by
  have e : (s * 4).toInt = s.toInt * 4 := ml (by show -2147483648 ≤ s.toInt * 4 ∧ s.toInt * 4 < 2147483648; omega)
  rw [ad (by rw [e]; omega), e]; omega
theorem ix_inj {s t w u : Int32} (hs : In 64 s) (ht : In 64 t) (hw : In 4 w) (hu : In 4 u) (e : s * 4 + w = t * 4 + u) : s = t ∧ w = u := by
  have e' := congrArg Int32.toInt e
  rw [ix hs hw, ix ht hu] at e'
  exact ⟨eq_i32.mpr (by omega), eq_i32.mpr (by omega)⟩
theorem px {p g : Int32} (hp : In 4 p) (hg : In 16 g) : (p * 16 + g).toInt = 16 * p.toInt + g.toInt := by
  have e : (p * 16).toInt = p.toInt * 16 := ml (by show -2147483648 ≤ p.toInt * 16 ∧ p.toInt * 16 < 2147483648; omega)
  rw [ad (by rw [e]; omega), e]; omega
theorem px_inj {s t w u : Int32} (hs : In 4 s) (ht : In 4 t) (hw : In 16 w) (hu : In 16 u) (e : s * 16 + w = t * 16 + u) : s = t ∧ w = u := by
  have e' := congrArg Int32.toInt e
  rw [px hs hw, px ht hu] at e'
  exact ⟨eq_i32.mpr (by omega), eq_i32.mpr (by omega)⟩
theorem s1 {i : Int32} (h : 0 ≤ i.toInt ∧ i.toInt < 100000) : (i + 1).toInt = i.toInt + 1 := by
  rw [ad (by show -2147483648 ≤ i.toInt + 1 ∧ i.toInt + 1 < 2147483648; omega)]; rfl
theorem ckn {γ : Type} {n : Int32} {m : Int} {i : Int32} {A : Option γ} (hm : n.toInt = m) (h : In m i) : chk n i A = A := chk_ok (by rw [hm]; exact h)
theorem ltn {x y : Int32} {m : Int} (hm : y.toInt = m) (h : x.toInt < m) : x < y := by rw [lt_i, hm]; exact h
theorem nltn {x y : Int32} {m : Int} (hm : y.toInt = m) (h : ¬ x.toInt < m) : ¬ x < y := by rw [lt_i, hm]; exact h
abbrev PI (ob : Rec) : Prop := PM (gI ob 0) (gI ob 1) (gI ob 2) (gI ob 7) (gA ob 9) (gA ob 10) (gA ob 12) (gA ob 14) (gA ob 15) (gA ob 16) (gA ob 17)
abbrev cont (ob : Rec) (y w : Int32) : Int32 := ct (gA ob 9) (gA ob 10) (gA ob 15) (gA ob 17) y w
theorem PI_c {ob r : Rec} (h : PI ob) (hI : ∀ k, k < 3 ∨ k = 7 → gI r k = gI ob k) (hA : ∀ k x, k = 9 ∨ k = 10 ∨ k = 12 ∨ 14 ≤ k → gA r k x = gA ob k x) : PI r := by
  have e9 : gA r 9 = gA ob 9 := funext fun x => hA 9 x (by omega)
  have e10 : gA r 10 = gA ob 10 := funext fun x => hA 10 x (by omega)
  have e12 : gA r 12 = gA ob 12 := funext fun x => hA 12 x (by omega)
  have e14 : gA r 14 = gA ob 14 := funext fun x => hA 14 x (by omega)
  have e15 : gA r 15 = gA ob 15 := funext fun x => hA 15 x (by omega)
  have e16 : gA r 16 = gA ob 16 := funext fun x => hA 16 x (by omega)
  have e17 : gA r 17 = gA ob 17 := funext fun x => hA 17 x (by omega)
  show PM (gI r 0) (gI r 1) (gI r 2) (gI r 7) (gA r 9) (gA r 10) (gA r 12) (gA r 14) (gA r 15) (gA r 16) (gA r 17)
  rw [hI 0 (by omega), hI 1 (by omega), hI 2 (by omega), hI 7 (by omega), e9, e10, e12, e14, e15, e16, e17]; exact h
theorem cont_c {ob r : Rec} (hA : ∀ k x, k = 9 ∨ k = 10 ∨ k = 12 ∨ 14 ≤ k → gA r k x = gA ob k x) (y w : Int32) : cont r y w = cont ob y w := by
  have e9 : gA r 9 = gA ob 9 := funext fun x => hA 9 x (by omega)
  have e10 : gA r 10 = gA ob 10 := funext fun x => hA 10 x (by omega)
  have e15 : gA r 15 = gA ob 15 := funext fun x => hA 15 x (by omega)
  have e17 : gA r 17 = gA ob 17 := funext fun x => hA 17 x (by omega)
  show ct _ _ _ _ _ _ = _
  rw [e9, e10, e15, e17]
theorem PI_hand {ob : Rec} (h : PI ob) {v : Int32} (hv : In (gI ob 2).toInt v) : PI (sI ob 7 v) := ⟨h.hP, h.hN, h.hF, hv, h.own, h.frm, h.slt, h.inj, h.cnt, h.cln⟩
abbrev Kp (ob r : Rec) : Prop := (PI r) ∧ (∀ y w, In 64 y → In 4 w → cont r y w = cont ob y w) ∧ (∀ k, ¬ k = 7 → gI r k = gI ob k) ∧ (∀ k x, k ≤ 8 → gA r k x = gA ob k x)
theorem Kp.pi {ob r : Rec} (h : Kp ob r) : PI r := h.1
theorem Kp.ct {ob r : Rec} (h : Kp ob r) : ∀ y w, In 64 y → In 4 w → cont r y w = cont ob y w := h.2.1
theorem Kp.si {ob r : Rec} (h : Kp ob r) : ∀ k, ¬ k = 7 → gI r k = gI ob k := h.2.2.1
theorem Kp.sa {ob r : Rec} (h : Kp ob r) : ∀ k x, k ≤ 8 → gA r k x = gA ob k x := h.2.2.2
theorem Kp.tr {a b c : Rec} (h : Kp a b) (g : Kp b c) : Kp a c :=
  ⟨g.pi, fun y w hy hw => (g.ct y w hy hw).trans (h.ct y w hy hw), fun k hk => (g.si k hk).trans (h.si k hk), fun k x hk => (g.sa k x hk).trans (h.sa k x hk)⟩
section pgb
variable (NF : Nat)
theorem al_l (ob : Rec) (tot : Int32) (ht : tot.toInt ≤ 64) : ∀ (m fuel : Nat) (i : Int32), m < fuel → 0 ≤ i.toInt → i.toInt ≤ tot.toInt → tot.toInt - i.toInt ≤ m → (∀ s : Int32, In i.toInt s → ¬ gA ob 16 s = 0) →
    (∃ s, X_allocSlot_l12 NF ob fuel tot i = some s ∧ In tot.toInt s ∧ gA ob 16 s = 0) ∨ (∀ s : Int32, In tot.toInt s → ¬ gA ob 16 s = 0) := by
  intro m
  induction m with
  | zero => intro fuel i hf h0 h1 h2 hs; right; intro s h; exact hs s ⟨h.1, by omega⟩
  | succ m ih =>
    intro fuel i hf h0 h1 h2 hs
    obtain ⟨n, rfl⟩ : ∃ n, fuel = n + 1 := ⟨fuel - 1, by omega⟩
    by_cases hc : i.toInt < tot.toInt
    · have ei := s1 (i := i) (by omega)
      by_cases hz : gA ob 16 i = 0
      · left; refine ⟨i, ?_, ⟨h0, hc⟩, hz⟩
        show X_allocSlot_w12 NF ob _ tot i = _
        unfold X_allocSlot_w12; rw [if_pos (lt_i.mpr hc), ckn (m := 64) rfl ⟨h0, by omega⟩, if_pos hz]
      · have := ih n (i + 1) (by omega) (by omega) (by omega) (by omega) (fun s h => by
          by_cases c : s = i
          · rw [c]; exact hz
          · have : ¬ s.toInt = i.toInt := fun e => c (eq_i32.mpr e)
            exact hs s ⟨h.1, by omega⟩)
        refine this.imp (fun ⟨s, h, a⟩ => ⟨s, ?_, a⟩) id
        rw [← h]
        show X_allocSlot_w12 NF ob _ tot i = _
        unfold X_allocSlot_w12; rw [if_pos (lt_i.mpr hc), ckn (m := 64) rfl ⟨h0, by omega⟩, if_neg hz]
    · right; intro s h; exact hs s ⟨h.1, by omega⟩
theorem al_e (hNF : 70 < NF) {ob : Rec} (h : PI ob) {x : Int32} (hx : VI (gI ob 0) (gI ob 1) x) (hs : gA ob 10 x < 0) : ∃ s, X_allocSlot NF ob = some s ∧ In 64 s ∧ gA ob 16 s = 0 := by
  have hP := h.hP
  have hN := h.hN
  have b1 : (gI ob 0).toInt * (gI ob 1).toInt ≤ 4 * 16 := Int.mul_le_mul (by omega) (by omega) (by omega) (by omega)
  have b0 : 0 ≤ (gI ob 0).toInt * (gI ob 1).toInt := Int.mul_nonneg (by omega) (by omega)
  have e : (gI ob 0 * gI ob 1).toInt = (gI ob 0).toInt * (gI ob 1).toInt := ml (by omega)
  rcases al_l NF ob (gI ob 0 * gI ob 1) (by omega) 64 NF 0 (by omega) (by decide) (by rw [e]; exact b0) (by rw [e]; show _ - (0 : Int) ≤ _; omega) (fun s hs => absurd hs.2 (by have := hs.1; show ¬ s.toInt < 0; omega)) with ⟨s, a, b, c⟩ | c
  · exact ⟨s, a, ⟨b.1, by omega⟩, c⟩
  · exact (PM_free h hx hs (fun s hs => c s (by rw [e]; exact hs))).elim
theorem wb_l {f s : Int32} (hf : In 32 f) (hs : In 64 s) : ∀ (m fuel : Nat) (ob : Rec) (i : Int32), m < fuel → 0 ≤ i.toInt → i.toInt ≤ 4 → 4 - i.toInt ≤ m →
    ∃ r, X_writeBack_l50 NF fuel ob f s i = some r ∧ r.1 = ob.1 ∧ (∀ k x, ¬ k = 14 → ¬ k = 17 → gA r k x = gA ob k x) ∧ gA r 14 f = 0 ∧ (∀ y, ¬ y = f → gA r 14 y = gA ob 14 y) ∧
      (∀ w : Int32, i.toInt ≤ w.toInt → w.toInt < 4 → gA r 17 (s * 4 + w) = gA ob 15 (f * 4 + w)) ∧ (∀ t w : Int32, In 64 t → In 4 w → (t = s → w.toInt < i.toInt) → gA r 17 (t * 4 + w) = gA ob 17 (t * 4 + w)) := by
  have fin : ∀ (n : Nat) (ob : Rec) (i : Int32), ¬ i.toInt < 4 → ∃ r, X_writeBack_l50 NF (n + 1) ob f s i = some r ∧ r.1 = ob.1 ∧ (∀ k x, ¬ k = 14 → ¬ k = 17 → gA r k x = gA ob k x) ∧ gA r 14 f = 0 ∧ (∀ y, ¬ y = f → gA r 14 y = gA ob 14 y) ∧
      (∀ w : Int32, i.toInt ≤ w.toInt → w.toInt < 4 → gA r 17 (s * 4 + w) = gA ob 15 (f * 4 + w)) ∧ (∀ t w : Int32, In 64 t → In 4 w → (t = s → w.toInt < i.toInt) → gA r 17 (t * 4 + w) = gA ob 17 (t * 4 + w)) := by
    intro n ob i hi
    refine ⟨sA ob 14 f 0, ?_, rfl, ?_, ?_, ?_, ?_, ?_⟩
    · show X_writeBack_w50 NF _ ob f s i = _
      unfold X_writeBack_w50; rw [if_neg (nltn (m := 4) rfl hi), ckn (m := 32) rfl hf]
    · intro k x a b; rw [gA_sA, if_neg (fun e => a e.1)]
    · rw [gA_sA, if_pos ⟨rfl, rfl⟩]
    · intro y a; rw [gA_sA, if_neg (fun e => a e.2)]
    · intro w a b; omega
    · intro t w _ _ _; rfl
  intro m
  induction m with
  | zero =>
    intro fuel ob i hfu h0 h1 h2
    obtain ⟨n, rfl⟩ : ∃ n, fuel = n + 1 := ⟨fuel - 1, by omega⟩
    exact fin n ob i (by omega)
  | succ m ih =>
    intro fuel ob i hfu h0 h1 h2
    obtain ⟨n, rfl⟩ : ∃ n, fuel = n + 1 := ⟨fuel - 1, by omega⟩
    by_cases hc : i.toInt < 4
    · have ei := s1 (i := i) (by omega)
      have x1 := ix (s := f) (w := i) ⟨hf.1, by omega⟩ ⟨h0, hc⟩
      have x2 := ix (s := s) (w := i) hs ⟨h0, hc⟩
      obtain ⟨r, h, r1, r2, r3, r4, r5, r6⟩ := ih n (sA ob 17 (s * 4 + i) (gA ob 15 (f * 4 + i))) (i + 1) (by omega) (by omega) (by omega) (by omega)
      refine ⟨r, ?_, r1, ?_, r3, ?_, ?_, ?_⟩
      · rw [← h]
        show X_writeBack_w50 NF _ ob f s i = _
        unfold X_writeBack_w50; rw [if_pos (ltn (m := 4) rfl hc), ckn (m := 128) rfl (by omega), ckn (m := 256) rfl (by omega)]
      · intro k x a b; rw [r2 k x a b, gA_sA, if_neg (fun e => b e.1)]
      · intro y a; rw [r4 y a]; rfl
      · intro w a b
        by_cases c : w = i
        · rw [c, r6 s i hs ⟨h0, hc⟩ (fun _ => by omega), gA_sA, if_pos ⟨rfl, rfl⟩]
        · have : ¬ w.toInt = i.toInt := fun e => c (eq_i32.mpr e)
          rw [r5 w (by omega) b]; rfl
      · intro t w ht hw hh
        rw [r6 t w ht hw (fun e => by have := hh e; omega), gA_sA, if_neg]
        intro e
        have := ix_inj ht hs hw ⟨h0, hc⟩ e.2
        have h3 := hh this.1
        rw [this.2] at h3; omega
    · exact fin n ob i hc
theorem wb_e (hNF : 70 < NF) {ob : Rec} (h : PI ob) {f : Int32} (hf : In (gI ob 2).toInt f) (h0 : ¬ gA ob 12 f < 0) :
    ∃ r, X_writeBack NF ob f = some r ∧ Kp ob r ∧ gI r 7 = gI ob 7 ∧ gA r 14 f = 0 ∧ (∀ k x, k = 9 ∨ k = 12 ∨ k = 13 → gA r k x = gA ob k x) := by
  have hF := h.hF
  have hf32 : In 32 f := ⟨hf.1, by omega⟩
  have ow := h.own f hf (nneg' h0)
  by_cases c : gA ob 10 (gA ob 12 f) < 0
  · obtain ⟨s, e, hs, hz⟩ := al_e NF hNF h ow.1 c
    obtain ⟨r, hr, r1, r2, r3, r4, r5, r6⟩ := wb_l NF hf32 hs 4 NF (sA (sA ob 16 s 1) 10 (gA ob 12 f) s) 0 (by omega) (by decide) (by decide) (by decide)
    have q16 : ∀ y, gA r 16 y = if y = s then 1 else gA ob 16 y := fun y => by rw [r2 16 y (by decide) (by decide), gA_sA, if_neg (fun e => absurd e.1 (by decide)), gA_sA]; simp
    have q10 : ∀ y, gA r 10 y = if y = gA ob 12 f then s else gA ob 10 y := fun y => by rw [r2 10 y (by decide) (by decide), gA_sA, gA_sA, if_neg (show ¬ (10 = 16 ∧ y = s) from fun e => absurd e.1 (by decide))]; simp
    have q : ∀ k x, ¬ k = 10 → ¬ k = 14 → ¬ k = 16 → ¬ k = 17 → gA r k x = gA ob k x := fun k x a b c d => by rw [r2 k x b d, gA_sA, if_neg (fun e => a e.1), gA_sA, if_neg (fun e => c e.1)]
    have qI : ∀ k, gI r k = gI ob k := fun k => by unfold gI; rw [r1]; rfl
    obtain ⟨p1, p2⟩ := PM_wb (ps' := gA r 10) (fd' := gA r 14) (su' := gA r 16) (sw' := gA r 17) h (s := s) hf rfl (nneg' h0) hs (Or.inr ⟨c, hz⟩) (by rw [q10, if_pos rfl]) (fun y n => by rw [q10, if_neg n]) (by rw [q16, if_pos rfl]; decide) (fun y n => by rw [q16, if_neg n]) r3 (fun y n => by rw [r4 y n]; rfl)
      (fun w hw => by rw [r5 w hw.1 hw.2]; rfl) (fun t w ht hw n => by rw [r6 t w ht hw (fun e => absurd e n)]; rfl)
    have e9 : gA r 9 = gA ob 9 := funext fun x => q 9 x (by decide) (by decide) (by decide) (by decide)
    have e12 : gA r 12 = gA ob 12 := funext fun x => q 12 x (by decide) (by decide) (by decide) (by decide)
    have e15 : gA r 15 = gA ob 15 := funext fun x => q 15 x (by decide) (by decide) (by decide) (by decide)
    refine ⟨r, ?_, ⟨?_, ?_, fun k _ => qI k, fun k x hk => q k x (by omega) (by omega) (by omega) (by omega)⟩, qI 7, r3, fun k x hk => q k x (by omega) (by omega) (by omega) (by omega)⟩
    · unfold X_writeBack
      rw [ckn (m := 32) rfl hf32, if_neg h0, ckn (m := 64) rfl ow.1.1, if_pos c, e, Option.bind_some, if_neg (nneg hs.1), ckn (m := 64) rfl hs, ckn (m := 64) rfl ow.1.1, hr]
    · show PM (gI r 0) (gI r 1) (gI r 2) (gI r 7) (gA r 9) (gA r 10) (gA r 12) (gA r 14) (gA r 15) (gA r 16) (gA r 17)
      rw [qI, qI, qI, qI, e9, e12, e15]; exact p1
    · intro y w hy hw
      show ct (gA r 9) (gA r 10) (gA r 15) (gA r 17) y w = _
      rw [e9, e15]; exact p2 y w hy hw
  · have sl := h.slt _ ow.1.1 (nneg' c)
    obtain ⟨r, hr, r1, r2, r3, r4, r5, r6⟩ := wb_l NF hf32 sl.2.1 4 NF ob 0 (by omega) (by decide) (by decide) (by decide)
    have qI : ∀ k, gI r k = gI ob k := fun k => by unfold gI; rw [r1]
    have e9 : gA r 9 = gA ob 9 := funext fun x => r2 9 x (by decide) (by decide)
    have e10 : gA r 10 = gA ob 10 := funext fun x => r2 10 x (by decide) (by decide)
    have e12 : gA r 12 = gA ob 12 := funext fun x => r2 12 x (by decide) (by decide)
    have e15 : gA r 15 = gA ob 15 := funext fun x => r2 15 x (by decide) (by decide)
    have e16 : gA r 16 = gA ob 16 := funext fun x => r2 16 x (by decide) (by decide)
    obtain ⟨p1, p2⟩ := PM_wb (ps' := gA ob 10) (fd' := gA r 14) (su' := gA ob 16) (sw' := gA r 17) h (s := gA ob 10 (gA ob 12 f)) hf rfl (nneg' h0) sl.2.1 (Or.inl rfl) rfl (fun y n => rfl) sl.2.2 (fun y n => rfl) r3 r4
      (fun w hw => r5 w hw.1 hw.2) (fun t w ht hw n => r6 t w ht hw (fun e => absurd e n))
    refine ⟨r, ?_, ⟨?_, ?_, fun k _ => qI k, fun k x hk => r2 k x (by omega) (by omega)⟩, qI 7, r3, fun k x hk => r2 k x (by omega) (by omega)⟩
    · unfold X_writeBack
      rw [ckn (m := 32) rfl hf32, if_neg h0, ckn (m := 64) rfl ow.1.1, if_neg c, hr]
    · show PM (gI r 0) (gI r 1) (gI r 2) (gI r 7) (gA r 9) (gA r 10) (gA r 12) (gA r 14) (gA r 15) (gA r 16) (gA r 17)
      rw [qI, qI, qI, qI, e9, e10, e12, e15, e16]; exact p1
    · intro y w hy hw
      show ct (gA r 9) (gA r 10) (gA r 15) (gA r 17) y w = _
      rw [e9, e10, e15]; exact p2 y w hy hw
/-- a clean, owned frame is emptied -/
theorem evb_e {ob : Rec} (h : PI ob) {f : Int32} (hf : In (gI ob 2).toInt f) (h0 : ¬ gA ob 12 f < 0) (hd : gA ob 14 f = 0) :
    ∃ r, X_evictFrame_b26 NF ob f (gA ob 12 f) = some r ∧ Kp ob r ∧ gA r 12 f < 0 ∧ (∀ y, gA ob 9 y < 0 → gA r 9 y < 0) := by
  have hF := h.hF
  have hf32 : In 32 f := ⟨hf.1, by omega⟩
  have ow := h.own f hf (nneg' h0)
  generalize hx : gA ob 12 f = x at *
  refine ⟨sA (sA (sA (sA ob 9 x (-1)) 12 f (-1)) 13 f 0) 14 f 0, ?_, ?_, ?_, ?_⟩
  · unfold X_evictFrame_b26; rw [ckn (m := 64) rfl ow.1.1, ckn (m := 32) rfl hf32, ckn (m := 32) rfl hf32, ckn (m := 32) rfl hf32]
  · obtain ⟨p1, p2⟩ := PM_ev (pf' := gA (sA (sA (sA (sA ob 9 x (-1)) 12 f (-1)) 13 f 0) 14 f 0) 9) (fo' := gA (sA (sA (sA (sA ob 9 x (-1)) 12 f (-1)) 13 f 0) 14 f 0) 12) (fd' := gA (sA (sA (sA (sA ob 9 x (-1)) 12 f (-1)) 13 f 0) 14 f 0) 14) h hf hx (nneg' h0) hd
      (by simp [gA_sA]) (fun y n => by simp [gA_sA, n]) (by simp [gA_sA]) (fun y n => by simp [gA_sA, n]) (fun y n => by simp [gA_sA, n])
    refine ⟨p1, p2, fun k _ => rfl, fun k x hk => ?_⟩
    rw [gA_sA, if_neg (by omega), gA_sA, if_neg (by omega), gA_sA, if_neg (by omega), gA_sA, if_neg (by omega)]
  · simp [gA_sA]
  · intro y n
    by_cases c : y = x
    · simp [gA_sA, c]
    · simp [gA_sA, c, n]
theorem ev_e (hNF : 70 < NF) {ob : Rec} (h : PI ob) {f : Int32} (hf : In (gI ob 2).toInt f) :
    ∃ r, X_evictFrame NF ob f = some r ∧ Kp ob r ∧ gA r 12 f < 0 ∧ (∀ y, gA ob 9 y < 0 → gA r 9 y < 0) := by
  have hF := h.hF
  have hf32 : In 32 f := ⟨hf.1, by omega⟩
  unfold X_evictFrame; rw [ckn (m := 32) rfl hf32]
  by_cases c : gA ob 12 f < 0
  · rw [if_pos c]; exact ⟨ob, rfl, ⟨h, fun _ _ _ _ => rfl, fun _ _ => rfl, fun _ _ _ => rfl⟩, c, fun _ n => n⟩
  · rw [if_neg c, ckn (m := 32) rfl hf32]
    by_cases d : gA ob 14 f = 0
    · rw [if_pos d]; exact evb_e NF h hf c d
    · rw [if_neg d]
      obtain ⟨r, e, kp, -, r14, rs⟩ := wb_e NF hNF h hf c
      rw [e, Option.bind_some, ← rs 12 f (by omega)]
      obtain ⟨q, e2, kq, q12, q9⟩ := evb_e NF kp.pi (f := f) (by rw [kp.si 2 (by decide)]; exact hf) (by rw [rs 12 f (by omega)]; exact c) r14
      exact ⟨q, e2, kp.tr kq, q12, fun y n => q9 y (by rw [rs 9 y (by omega)]; exact n)⟩
theorem fl_l {f x s b : Int32} (hb : b = f * 4) (hf : In 32 f) (hx : In 64 x) (hs : 0 ≤ s.toInt → In 64 s) : ∀ (m fuel : Nat) (ob : Rec) (i : Int32), m < fuel → 0 ≤ i.toInt → i.toInt ≤ 4 → 4 - i.toInt ≤ m →
    ∃ r, X_fillFrame_l15 NF fuel ob f x s b i = some r ∧ r.1 = ob.1 ∧ (∀ k y, ¬ k = 9 → ¬ k = 11 → ¬ k = 12 → ¬ k = 13 → ¬ k = 14 → ¬ k = 15 → gA r k y = gA ob k y) ∧ gA r 12 f = x ∧ (∀ y, ¬ y = f → gA r 12 y = gA ob 12 y) ∧ (∀ y, ¬ y = f → gA r 14 y = gA ob 14 y) ∧
      gA r 9 x = f ∧ (∀ y, ¬ y = x → gA r 9 y = gA ob 9 y) ∧
      (∀ w : Int32, i.toInt ≤ w.toInt → w.toInt < 4 → gA r 15 (f * 4 + w) = if s < 0 then 0 else gA ob 17 (s * 4 + w)) ∧ (∀ t w : Int32, In 32 t → In 4 w → (t = f → w.toInt < i.toInt) → gA r 15 (t * 4 + w) = gA ob 15 (t * 4 + w)) := by
  have fin : ∀ (n : Nat) (ob : Rec) (i : Int32), ¬ i.toInt < 4 → ∃ r, X_fillFrame_l15 NF (n + 1) ob f x s b i = some r ∧ r.1 = ob.1 ∧ (∀ k y, ¬ k = 9 → ¬ k = 11 → ¬ k = 12 → ¬ k = 13 → ¬ k = 14 → ¬ k = 15 → gA r k y = gA ob k y) ∧ gA r 12 f = x ∧ (∀ y, ¬ y = f → gA r 12 y = gA ob 12 y) ∧ (∀ y, ¬ y = f → gA r 14 y = gA ob 14 y) ∧
      gA r 9 x = f ∧ (∀ y, ¬ y = x → gA r 9 y = gA ob 9 y) ∧
      (∀ w : Int32, i.toInt ≤ w.toInt → w.toInt < 4 → gA r 15 (f * 4 + w) = if s < 0 then 0 else gA ob 17 (s * 4 + w)) ∧ (∀ t w : Int32, In 32 t → In 4 w → (t = f → w.toInt < i.toInt) → gA r 15 (t * 4 + w) = gA ob 15 (t * 4 + w)) := by
    intro n ob i hi
    refine ⟨sA (sA (sA (sA (sA ob 12 f x) 13 f 0) 14 f 0) 9 x f) 11 x (gA ob 1 (x / 16)), ?_, rfl, ?_, ?_, ?_, ?_, ?_, ?_, ?_, ?_⟩
    · show X_fillFrame_w15 NF _ ob f x s b i = _
      have e := dv (x := x) (y := 16) hx.1 (by decide)
      have e' : (x / 16).toInt = x.toInt / 16 := e
      unfold X_fillFrame_w15; rw [if_neg (nltn (m := 4) rfl hi), ckn (m := 32) rfl hf, ckn (m := 32) rfl hf, ckn (m := 32) rfl hf, ckn (m := 64) rfl hx, ckn (m := 4) rfl (by rw [In, e']; omega), ckn (m := 64) rfl hx]
    · intro k y a1 a2 a3 a4 a5 a6; simp [gA_sA, a1, a2, a3, a4, a5]
    · simp [gA_sA]
    · intro y n; simp [gA_sA, n]
    · intro y n; simp [gA_sA, n]
    · simp [gA_sA]
    · intro y n; simp [gA_sA, n]
    · intro w a b; omega
    · intro t w _ _ _; rfl
  intro m
  induction m with
  | zero =>
    intro fuel ob i hfu h0 h1 h2
    obtain ⟨n, rfl⟩ : ∃ n, fuel = n + 1 := ⟨fuel - 1, by omega⟩
    exact fin n ob i (by omega)
  | succ m ih =>
    intro fuel ob i hfu h0 h1 h2
    obtain ⟨n, rfl⟩ : ∃ n, fuel = n + 1 := ⟨fuel - 1, by omega⟩
    by_cases hc : i.toInt < 4
    · have ei := s1 (i := i) (by omega)
      have x1 := ix (s := f) (w := i) ⟨hf.1, by omega⟩ ⟨h0, hc⟩
      obtain ⟨r, h, r1, r2, r3, r4, r4', r5, r5', r6, r7⟩ := ih n (sA ob 15 (b + i) (if s < 0 then 0 else gA ob 17 (s * 4 + i))) (i + 1) (by omega) (by omega) (by omega) (by omega)
      refine ⟨r, ?_, r1, ?_, r3, ?_, ?_, r5, ?_, ?_, ?_⟩
      · rw [← h]
        show X_fillFrame_w15 NF _ ob f x s b i = _
        unfold X_fillFrame_w15; rw [if_pos (ltn (m := 4) rfl hc)]
        by_cases c : s < 0
        · rw [if_pos c, if_pos c, ckn (m := 128) rfl (by rw [hb]; omega)]
        · have x2 := ix (s := s) (w := i) (hs (nneg' c)) ⟨h0, hc⟩
          have hs' := hs (nneg' c)
          rw [if_neg c, if_neg c, ckn (m := 256) rfl (by omega), ckn (m := 128) rfl (by rw [hb]; omega)]
      · intro k y a1 a2 a3 a4 a5 a6; rw [r2 k y a1 a2 a3 a4 a5 a6, gA_sA, if_neg (fun e => a6 e.1)]
      · intro y a; rw [r4 y a]; rfl
      · intro y a; rw [r4' y a]; rfl
      · intro y a; rw [r5' y a]; rfl
      · intro w a b'
        by_cases c : w = i
        · rw [c, r7 f i hf ⟨h0, hc⟩ (fun _ => by omega), gA_sA, if_pos ⟨rfl, by rw [hb]⟩]
        · have : ¬ w.toInt = i.toInt := fun e => c (eq_i32.mpr e)
          rw [r6 w (by omega) b']; rfl
      · intro t w ht hw hh
        rw [r7 t w ht hw (fun e => by have := hh e; omega), gA_sA, if_neg]
        intro e
        have e2 := e.2
        rw [hb] at e2
        have := ix_inj (s := t) (t := f) ⟨ht.1, by omega⟩ ⟨hf.1, by omega⟩ hw ⟨h0, hc⟩ e2
        have h3 := hh this.1
        rw [this.2] at h3; omega
    · exact fin n ob i hc
theorem fl_e (hNF : 70 < NF) {ob : Rec} (h : PI ob) {f x : Int32} (hf : In (gI ob 2).toInt f) (hx : VI (gI ob 0) (gI ob 1) x) (hfr : gA ob 12 f < 0) (hn : gA ob 9 x < 0) :
    ∃ r, X_fillFrame NF ob f x = some r ∧ Kp ob r ∧ gI r 7 = gI ob 7 ∧ gA r 9 x = f := by
  have hF := h.hF
  have hf32 : In 32 f := ⟨hf.1, by omega⟩
  obtain ⟨r, hr, r1, r2, r3, r4, r4', r5, r5', r6, r7⟩ := fl_l NF (b := f * 4) rfl hf32 hx.1 (s := gA ob 10 x) (fun a => (h.slt x hx.1 a).2.1) 4 NF ob 0 (by omega) (by decide) (by decide) (by decide)
  obtain ⟨p1, p2⟩ := PM_fill (pf' := gA r 9) (fo' := gA r 12) (fd' := gA r 14) (fw' := gA r 15) h hf hx hfr hn r5 r5' r3 r4 r4' (fun w hw => r6 w hw.1 hw.2) (fun t w ht hw n => r7 t w ht hw (fun e => absurd e n))
  have qI : ∀ k, gI r k = gI ob k := fun k => by unfold gI; rw [r1]
  have e10 : gA r 10 = gA ob 10 := funext fun x => r2 10 x (by decide) (by decide) (by decide) (by decide) (by decide) (by decide)
  have e16 : gA r 16 = gA ob 16 := funext fun x => r2 16 x (by decide) (by decide) (by decide) (by decide) (by decide) (by decide)
  have e17 : gA r 17 = gA ob 17 := funext fun x => r2 17 x (by decide) (by decide) (by decide) (by decide) (by decide) (by decide)
  refine ⟨r, ?_, ⟨?_, ?_, fun k _ => qI k, fun k y hk => r2 k y (by omega) (by omega) (by omega) (by omega) (by omega) (by omega)⟩, qI 7, r5⟩
  · unfold X_fillFrame; rw [ckn (m := 64) rfl hx.1, hr]
  · show PM (gI r 0) (gI r 1) (gI r 2) (gI r 7) (gA r 9) (gA r 10) (gA r 12) (gA r 14) (gA r 15) (gA r 16) (gA r 17)
    rw [qI, qI, qI, qI, e10, e16, e17]; exact p1
  · intro y w hy hw
    show ct (gA r 9) (gA r 10) (gA r 15) (gA r 17) y w = _
    rw [e10, e17]; exact p2 y w hy hw
theorem ff_e (hNF : 70 < NF) {ob : Rec} (hF : (gI ob 2).toInt ≤ 32) : ∃ f, X_findFreeFrame NF ob = some f ∧ (f < 0 ∨ (In (gI ob 2).toInt f ∧ gA ob 12 f < 0)) := by
  have l : ∀ (m fuel : Nat) (i : Int32), m < fuel → 0 ≤ i.toInt → i.toInt ≤ 32 → 32 - i.toInt ≤ m → ∃ f, X_findFreeFrame_l2 NF ob fuel i = some f ∧ (f < 0 ∨ (In (gI ob 2).toInt f ∧ gA ob 12 f < 0)) := by
    intro m
    induction m with
    | zero =>
      intro fuel i hfu h0 h1 h2
      obtain ⟨n, rfl⟩ : ∃ n, fuel = n + 1 := ⟨fuel - 1, by omega⟩
      refine ⟨-1, ?_, Or.inl (by decide)⟩
      show X_findFreeFrame_w2 NF ob _ i = _
      unfold X_findFreeFrame_w2; rw [if_neg (by rw [lt_i]; omega)]
    | succ m ih =>
      intro fuel i hfu h0 h1 h2
      obtain ⟨n, rfl⟩ : ∃ n, fuel = n + 1 := ⟨fuel - 1, by omega⟩
      show ∃ f, X_findFreeFrame_w2 NF ob (X_findFreeFrame_l2 NF ob n) i = _ ∧ _
      unfold X_findFreeFrame_w2
      by_cases hc : i < gI ob 2
      · have hc' := lt_i.mp hc
        rw [if_pos hc, ckn (m := 32) rfl ⟨h0, by omega⟩]
        by_cases d : gA ob 12 i < 0
        · rw [if_pos d]; exact ⟨i, rfl, Or.inr ⟨⟨h0, hc'⟩, d⟩⟩
        · have ei := s1 (i := i) (by omega)
          rw [if_neg d]; exact ih n (i + 1) (by omega) (by omega) (by omega) (by omega)
      · rw [if_neg hc]; exact ⟨-1, rfl, Or.inl (by decide)⟩
  exact l 32 NF 0 (by omega) (by decide) (by decide) (by decide)
end pgb
section pgc
variable (NF : Nat)
theorem hnd {ob : Rec} (h : PI ob) : In (gI ob 2).toInt ((gI ob 7 + 1) % gI ob 2) := by
  have hF := h.hF
  have hH := h.hH
  have e := s1 (i := gI ob 7) (by omega)
  have e2 := md (x := gI ob 7 + 1) (y := gI ob 2) (by omega) (by omega)
  rw [In, e2]
  exact ⟨Int.emod_nonneg _ (by omega), Int.emod_lt_of_pos _ (by omega)⟩
theorem kp_hand {ob : Rec} (h : PI ob) : Kp ob (sI ob 7 ((gI ob 7 + 1) % gI ob 2)) :=
  ⟨PI_hand h (hnd h), fun _ _ _ _ => rfl, fun k hk => by rw [gI_sI, if_neg hk], fun _ _ _ => rfl⟩
theorem dvz_ok {γ : Type} {y : Int32} {A : Option γ} (h : ¬ y = 0) : dvz y A = A := by unfold dvz; rw [if_neg h]
theorem cvb {ob : Rec} {F i1 i2 f : Int32} {k4 : Rec → Int32 → Int32 → Option (Int32 × Rec)} (hNF : 70 < NF) (h : PI ob) (hF : gI ob 2 = F) (h1 : i1 < 0 ∨ In F.toInt i1) (hf : In F.toInt f) (h12 : ¬ gA ob 12 f < 0)
    (ih : ∀ (ob' : Rec) (j : Int32), PI ob' → gI ob' 2 = F → (j < 0 ∨ In F.toInt j) → ∃ v r, k4 ob' j (i2 + 1) = some (v, r) ∧ In F.toInt v ∧ Kp ob' r ∧ ∀ y, gA r 9 y = gA ob' 9 y) (t : Int32) :
    ∃ v r, X_chooseVictim_b126 NF k4 ob i1 i2 f t = some (v, r) ∧ In F.toInt v ∧ Kp ob r ∧ ∀ y, gA r 9 y = gA ob 9 y := by
  have hF' := h.hF
  have hf32 : In 32 f := ⟨hf.1, by rw [hF] at hF'; omega⟩
  unfold X_chooseVictim_b126
  by_cases ct : t = 0
  · rw [if_pos ct]
    by_cases c : i1 < 0
    · rw [if_pos c, ckn (m := 32) rfl hf32]
      by_cases d : gA ob 14 f = 0
      · rw [if_pos d]; exact ih ob f h hF (Or.inr hf)
      · rw [if_neg d]; exact ih ob i1 h hF h1
    · rw [if_neg c]; exact ih ob i1 h hF h1
  · rw [if_neg ct, ckn (m := 32) rfl hf32]
    by_cases d : gA ob 14 f = 0
    · rw [if_pos d]; exact ⟨f, ob, rfl, hf, ⟨h, fun _ _ _ _ => rfl, fun _ _ => rfl, fun _ _ _ => rfl⟩, fun _ => rfl⟩
    · rw [if_neg d]
      obtain ⟨r, e, kp, -, -, rs⟩ := wb_e NF hNF h (by rw [hF]; exact hf) h12
      rw [e, Option.bind_some]
      obtain ⟨v, q, e2, hv, kq, q9⟩ := ih r i1 kp.pi (by rw [kp.si 2 (by decide), hF]) h1
      exact ⟨v, q, e2, hv, kp.tr kq, fun y => (q9 y).trans (rs 9 y (by omega))⟩
theorem cv_l (hNF : 70 < NF) (F : Int32) : ∀ (m fuel : Nat) (ob : Rec) (i1 i2 : Int32), m < fuel → PI ob → gI ob 2 = F → (i1 < 0 ∨ In F.toInt i1) → 0 ≤ i2.toInt → i2.toInt ≤ 64 → 64 - i2.toInt ≤ m →
    ∃ v r, X_chooseVictim_l4 NF fuel ob i1 i2 = some (v, r) ∧ In F.toInt v ∧ Kp ob r ∧ ∀ y, gA r 9 y = gA ob 9 y := by
  have fin : ∀ (k4 : Rec → Int32 → Int32 → Option (Int32 × Rec)) (ob : Rec) (i1 i2 : Int32), PI ob → gI ob 2 = F → (i1 < 0 ∨ In F.toInt i1) → ¬ i2 < 2 * F → ∃ v r, X_chooseVictim_w4 NF k4 ob i1 i2 = some (v, r) ∧ In F.toInt v ∧ Kp ob r ∧ ∀ y, gA r 9 y = gA ob 9 y := by
    intro k4 ob i1 i2 h hF h1 hi
    have hF' := h.hF
    have hH := h.hH
    unfold X_chooseVictim_w4; rw [hF, if_neg hi]
    by_cases c : i1 < 0
    · rw [if_pos c, dvz_ok (by intro e; rw [hF, e] at hF'; exact absurd hF'.1 (by decide))]
      exact ⟨_, _, rfl, by rw [← hF]; exact hH, by rw [← hF]; exact kp_hand h, fun _ => rfl⟩
    · rw [if_neg c]; exact ⟨_, _, rfl, h1.resolve_left c, ⟨h, fun _ _ _ _ => rfl, fun _ _ => rfl, fun _ _ _ => rfl⟩, fun _ => rfl⟩
  have t2 : ∀ ob, PI ob → gI ob 2 = F → ((2 : Int32) * F).toInt = 2 * F.toInt := by
    intro ob h e
    have := h.hF
    rw [e] at this
    exact ml (by show -2147483648 ≤ 2 * F.toInt ∧ 2 * F.toInt < 2147483648; omega)
  intro m
  induction m with
  | zero =>
    intro fuel ob i1 i2 hfu h hF h1 h0 h2 h3
    obtain ⟨n, rfl⟩ : ∃ n, fuel = n + 1 := ⟨fuel - 1, by omega⟩
    have := h.hF
    rw [hF] at this
    exact fin _ ob i1 i2 h hF h1 (by rw [lt_i, t2 ob h hF]; omega)
  | succ m ih =>
    intro fuel ob i1 i2 hfu h hF h1 h0 h2 h3
    obtain ⟨n, rfl⟩ : ∃ n, fuel = n + 1 := ⟨fuel - 1, by omega⟩
    show ∃ v r, X_chooseVictim_w4 NF (X_chooseVictim_l4 NF n) ob i1 i2 = _ ∧ _
    by_cases hi : i2 < 2 * F
    · have hF' := h.hF
      rw [hF] at hF'
      have hi' := lt_i.mp hi
      rw [t2 ob h hF] at hi'
      have ei := s1 (i := i2) (by omega)
      have ih' : ∀ (ob' : Rec) (j : Int32), PI ob' → gI ob' 2 = F → (j < 0 ∨ In F.toInt j) → ∃ v r, X_chooseVictim_l4 NF n ob' j (i2 + 1) = some (v, r) ∧ In F.toInt v ∧ Kp ob' r ∧ ∀ y, gA r 9 y = gA ob' 9 y :=
        fun ob' j a b c => ih n ob' j (i2 + 1) (by omega) a b c (by omega) (by omega) (by omega)
      have hH := h.hH
      rw [hF] at hH
      have hH32 : In 32 (gI ob 7) := ⟨hH.1, by omega⟩
      have kh := kp_hand h
      have Fz : ¬ gI ob 2 = 0 := by intro e; rw [← hF, e] at hF'; exact absurd hF'.1 (by decide)
      unfold X_chooseVictim_w4; rw [if_pos (by rw [hF]; exact hi), dvz_ok Fz, ckn (m := 32) rfl hH32]
      generalize hob : sI ob 7 ((gI ob 7 + 1) % gI ob 2) = ob' at *
      have s12 : ∀ k y, gA ob' k y = gA ob k y := fun k y => by rw [← hob]; rfl
      have e2 : gI ob' 2 = F := by rw [kh.si 2 (by decide), hF]
      by_cases c : gA ob 12 (gI ob 7) < 0
      · rw [if_pos c]; exact ⟨_, _, rfl, hH, kh, fun y => s12 9 y⟩
      · have ow := h.own (gI ob 7) (by rw [hF]; exact hH) (nneg' c)
        have ex : (gA ob 12 (gI ob 7) / 16).toInt = (gA ob 12 (gI ob 7)).toInt / 16 := dv (y := 16) ow.1.1.1 (by decide)
        have b4 : In 4 (gA ob 12 (gI ob 7) / 16) := by rw [In, ex]; have := ow.1.1; omega
        have cb : ∀ t, ∃ v r, X_chooseVictim_b126 NF (X_chooseVictim_l4 NF n) ob' i1 i2 (gI ob 7) t = some (v, r) ∧ In F.toInt v ∧ Kp ob r ∧ ∀ y, gA r 9 y = gA ob 9 y := by
          intro t
          obtain ⟨v, r, a1, a2, a3, a4⟩ := cvb NF hNF kh.pi e2 h1 hH (by rw [s12]; exact c) ih' t
          exact ⟨v, r, a1, a2, kh.tr a3, fun y => (a4 y).trans (s12 9 y)⟩
        rw [if_neg c, ckn (m := 32) rfl hH32]
        by_cases d : gA ob 13 (gI ob 7) = 0
        · rw [if_pos d, ckn (m := 4) rfl b4]
          by_cases e : gA ob 0 (gA ob 12 (gI ob 7) / 16) = 0
          · rw [if_pos e, ckn (m := 4) rfl b4, ckn (m := 64) rfl ow.1.1]
            by_cases g : gA ob 1 (gA ob 12 (gI ob 7) / 16) - gA ob 11 (gA ob 12 (gI ob 7)) < gI ob 3
            · rw [if_pos g]; exact cb 0
            · rw [if_neg g]; exact cb 1
          · rw [if_neg e]; exact cb 1
        · rw [if_neg d, ckn (m := 32) rfl hH32, ckn (m := 4) rfl b4, ckn (m := 64) rfl ow.1.1]
          generalize hq : sA (sA ob' 13 (gI ob 7) 0) 11 (gA ob 12 (gI ob 7)) (gA ob 1 (gA ob 12 (gI ob 7) / 16)) = q
          have qA : ∀ k y, ¬ k = 13 → ¬ k = 11 → gA q k y = gA ob' k y := fun k y a b => by rw [← hq, gA_sA, if_neg (fun e => b e.1), gA_sA, if_neg (fun e => a e.1)]
          have qI : ∀ k, gI q k = gI ob' k := fun k => by rw [← hq]; rfl
          have pq : PI q := PI_c kh.pi (fun k _ => qI k) (fun k y hk => qA k y (by omega) (by omega))
          obtain ⟨v, r, a1, a2, a3, a4⟩ := ih' q i1 pq (by rw [qI, e2]) h1
          refine ⟨v, r, a1, a2, kh.tr (Kp.tr ⟨pq, fun y w _ _ => cont_c (fun k y hk => qA k y (by omega) (by omega)) y w, fun k _ => qI k, fun k y hk => qA k y (by omega) (by omega)⟩ a3), fun y => (a4 y).trans ((qA 9 y (by decide) (by decide)).trans (s12 9 y))⟩
    · exact fin _ ob i1 i2 h hF h1 hi
theorem er_e (hNF : 70 < NF) {ob : Rec} (h : PI ob) {p g : Int32} (hp : In (gI ob 0).toInt p) (hg : In (gI ob 1).toInt g) :
    ∃ f r, X_ensureResident NF ob p g = some (f, r) ∧ In (gI ob 2).toInt f ∧ Kp ob r ∧ gA r 9 (p * 16 + g) = f := by
  have hP := h.hP
  have hN := h.hN
  have hF := h.hF
  have ex := px (p := p) (g := g) ⟨hp.1, by omega⟩ ⟨hg.1, by omega⟩
  generalize hx : p * 16 + g = x at *
  have vx : VI (gI ob 0) (gI ob 1) x := ⟨⟨by omega, by omega⟩, by omega, by omega⟩
  unfold X_ensureResident; rw [hx, ckn (m := 64) rfl vx.1]
  by_cases c : gA ob 9 x < 0
  · rw [if_pos c]
    obtain ⟨f, e, hf⟩ := ff_e NF hNF (ob := ob) (by omega)
    rw [e, Option.bind_some]
    by_cases d : f < 0
    · rw [if_pos d]
      obtain ⟨v, r, a1, a2, a3, a4⟩ := cv_l NF hNF (gI ob 2) 64 NF ob (-1) 0 (by omega) h rfl (Or.inl (by decide)) (by decide) (by decide) (by decide)
      unfold X_chooseVictim
      rw [a1, bind2_some]
      have r2 := a3.si 2 (by decide)
      obtain ⟨q, e2, kq, q12, q9⟩ := ev_e NF hNF a3.pi (f := v) (by rw [r2]; exact a2)
      rw [e2, Option.bind_some]
      have kk := a3.tr kq
      unfold X_ensureResident_b46
      obtain ⟨z, e3, kz, -, z9⟩ := fl_e NF hNF kq.pi (f := v) (x := x) (by rw [kk.si 2 (by decide)]; exact a2) (by rw [kk.si 0 (by decide), kk.si 1 (by decide)]; exact vx) q12 (q9 x (by rw [a4]; exact c))
      rw [e3, Option.bind_some]
      exact ⟨v, z, rfl, a2, kk.tr kz, z9⟩
    · rw [if_neg d]
      have hf' := hf.resolve_left d
      unfold X_ensureResident_b46
      obtain ⟨z, e3, kz, -, z9⟩ := fl_e NF hNF h (f := f) (x := x) hf'.1 vx hf'.2 c
      rw [e3, Option.bind_some]
      exact ⟨f, z, rfl, hf'.1, kz, z9⟩
  · rw [if_neg c]
    exact ⟨_, ob, rfl, (h.frm x vx.1 (nneg' c)).1, ⟨h, fun _ _ _ _ => rfl, fun _ _ => rfl, fun _ _ _ => rfl⟩, rfl⟩
/-- the window slides: c1, w1 = counts and size after the oldest is given up -/
abbrev PW (p g : Int32) (ob r : Rec) (c1 : Int32 → Int32) (w1 : Int32) : Prop := (∀ k, gI r k = gI ob k) ∧ (∀ k x, ¬ k = 2 → ¬ k = 3 → ¬ k = 4 → ¬ k = 6 → ¬ k = 7 → gA r k x = gA ob k x) ∧ (∀ k x, ¬ k = 6 → ¬ k = 7 → ¬ x = p → gA r k x = gA ob k x) ∧ (gA r 3 p = (gA ob 3 p + 1) % gI ob 3) ∧ (∀ x, gA r 6 x = if x = p * 16 + gA ob 3 p then g else gA ob 6 x) ∧ (gA r 2 p = if gA ob 2 p < gI ob 3 then gA ob 2 p + 1 else gA ob 2 p) ∧ (gA ob 2 p < gI ob 3 → c1 = gA ob 7 ∧ w1 = gA ob 4 p) ∧ (¬ gA ob 2 p < gI ob 3 → (∀ x, c1 x = if x = p * 16 + gA ob 6 (p * 16 + gA ob 3 p) then gA ob 7 x - 1 else gA ob 7 x) ∧ w1 = if c1 (p * 16 + gA ob 6 (p * 16 + gA ob 3 p)) = 0 then gA ob 4 p - 1 else gA ob 4 p) ∧ (∀ x, gA r 7 x = if x = p * 16 + g then c1 x + 1 else c1 x) ∧ (gA r 4 p = if c1 (p * 16 + g) = 0 then w1 + 1 else w1)
theorem PW.si {p g : Int32} {ob r : Rec} {c1 : Int32 → Int32} {w1 : Int32} (h : PW p g ob r c1 w1) : ∀ k, gI r k = gI ob k := h.1
theorem PW.sa {p g : Int32} {ob r : Rec} {c1 : Int32 → Int32} {w1 : Int32} (h : PW p g ob r c1 w1) : ∀ k x, ¬ k = 2 → ¬ k = 3 → ¬ k = 4 → ¬ k = 6 → ¬ k = 7 → gA r k x = gA ob k x := h.2.1
theorem PW.so {p g : Int32} {ob r : Rec} {c1 : Int32 → Int32} {w1 : Int32} (h : PW p g ob r c1 w1) : ∀ k x, ¬ k = 6 → ¬ k = 7 → ¬ x = p → gA r k x = gA ob k x := h.2.2.1
theorem PW.hd {p g : Int32} {ob r : Rec} {c1 : Int32 → Int32} {w1 : Int32} (h : PW p g ob r c1 w1) : gA r 3 p = (gA ob 3 p + 1) % gI ob 3 := h.2.2.2.1
theorem PW.rg {p g : Int32} {ob r : Rec} {c1 : Int32 → Int32} {w1 : Int32} (h : PW p g ob r c1 w1) : ∀ x, gA r 6 x = if x = p * 16 + gA ob 3 p then g else gA ob 6 x := h.2.2.2.2.1
theorem PW.ln {p g : Int32} {ob r : Rec} {c1 : Int32 → Int32} {w1 : Int32} (h : PW p g ob r c1 w1) : gA r 2 p = if gA ob 2 p < gI ob 3 then gA ob 2 p + 1 else gA ob 2 p := h.2.2.2.2.2.1
theorem PW.c1l {p g : Int32} {ob r : Rec} {c1 : Int32 → Int32} {w1 : Int32} (h : PW p g ob r c1 w1) : gA ob 2 p < gI ob 3 → c1 = gA ob 7 ∧ w1 = gA ob 4 p := h.2.2.2.2.2.2.1
theorem PW.c1g {p g : Int32} {ob r : Rec} {c1 : Int32 → Int32} {w1 : Int32} (h : PW p g ob r c1 w1) : ¬ gA ob 2 p < gI ob 3 → (∀ x, c1 x = if x = p * 16 + gA ob 6 (p * 16 + gA ob 3 p) then gA ob 7 x - 1 else gA ob 7 x) ∧ w1 = if c1 (p * 16 + gA ob 6 (p * 16 + gA ob 3 p)) = 0 then gA ob 4 p - 1 else gA ob 4 p := h.2.2.2.2.2.2.2.1
theorem PW.cn {p g : Int32} {ob r : Rec} {c1 : Int32 → Int32} {w1 : Int32} (h : PW p g ob r c1 w1) : ∀ x, gA r 7 x = if x = p * 16 + g then c1 x + 1 else c1 x := h.2.2.2.2.2.2.2.2.1
theorem PW.ws {p g : Int32} {ob r : Rec} {c1 : Int32 → Int32} {w1 : Int32} (h : PW p g ob r c1 w1) : gA r 4 p = if c1 (p * 16 + g) = 0 then w1 + 1 else w1 := h.2.2.2.2.2.2.2.2.2
theorem pwb {ob : Rec} {p g h : Int32} (hp : In 4 p) (hg : In 16 g) (hh : In 16 h) (hT : ¬ gI ob 3 = 0) :
    ∃ r, X_pushWindow_b100 ob p g (p * 16) h = some r ∧ (∀ k, gI r k = gI ob k) ∧ (∀ k x, ¬ k = 3 → ¬ k = 4 → ¬ k = 6 → ¬ k = 7 → gA r k x = gA ob k x) ∧ (∀ k x, ¬ k = 6 → ¬ k = 7 → ¬ x = p → gA r k x = gA ob k x) ∧
      gA r 3 p = (h + 1) % gI ob 3 ∧ (∀ x, gA r 6 x = if x = p * 16 + h then g else gA ob 6 x) ∧ (∀ x, gA r 7 x = if x = p * 16 + g then gA ob 7 x + 1 else gA ob 7 x) ∧ gA r 4 p = if gA ob 7 (p * 16 + g) = 0 then gA ob 4 p + 1 else gA ob 4 p := by
  have e1 := px hp hg
  have e2 := px hp hh
  have i1 : In 64 (p * 16 + g) := by rw [In, e1]; omega
  have i2 : In 64 (p * 16 + h) := by rw [In, e2]; omega
  unfold X_pushWindow_b100; rw [ckn (m := 64) rfl i2, ckn (m := 64) rfl i1]
  by_cases c : gA ob 7 (p * 16 + g) = 0
  · rw [if_pos c, ckn (m := 4) rfl hp, ckn (m := 4) rfl hp]
    unfold X_pushWindow_b135; rw [ckn (m := 64) rfl i1, ckn (m := 64) rfl i1]
    generalize hob : sA (sA ob 6 (p * 16 + h) g) 4 p (gA ob 4 p + 1) = q
    have qI : ∀ k, gI q k = gI ob k := fun k => by rw [← hob]; rfl
    rw [dvz_ok (by rw [qI]; exact hT), ckn (m := 4) rfl hp]
    refine ⟨_, rfl, qI, ?_, ?_, ?_, ?_, ?_, ?_⟩
    · intro k x a b d e; rw [← hob]; simp [gA_sA, a, b, d, e]
    · intro k x d e n; rw [← hob]; simp [gA_sA, d, e, n]
    · rw [qI, gA_sA, if_pos ⟨rfl, rfl⟩]
    · intro x; rw [← hob]; simp [gA_sA]
    · intro x; rw [← hob]
      by_cases n : x = p * 16 + g
      · simp [gA_sA, n]
      · simp [gA_sA, n]
    · rw [← hob, if_pos c]; simp [gA_sA]
  · rw [if_neg c]
    unfold X_pushWindow_b135; rw [ckn (m := 64) rfl i1, ckn (m := 64) rfl i1]
    generalize hob : sA ob 6 (p * 16 + h) g = q
    have qI : ∀ k, gI q k = gI ob k := fun k => by rw [← hob]; rfl
    rw [dvz_ok (by rw [qI]; exact hT), ckn (m := 4) rfl hp]
    refine ⟨_, rfl, qI, ?_, ?_, ?_, ?_, ?_, ?_⟩
    · intro k x a b d e; rw [← hob]; simp [gA_sA, a, b, d, e]
    · intro k x d e n; rw [← hob]; simp [gA_sA, d, e, n]
    · rw [qI, gA_sA, if_pos ⟨rfl, rfl⟩]
    · intro x; rw [← hob]; simp [gA_sA]
    · intro x; rw [← hob]
      by_cases n : x = p * 16 + g
      · simp [gA_sA, n]
      · simp [gA_sA, n]
    · rw [← hob, if_neg c]; simp [gA_sA]
theorem pw_e {ob : Rec} {p g : Int32} (hp : In 4 p) (hg : In 16 g) (hh : In 16 (gA ob 3 p)) (hT : ¬ gI ob 3 = 0) (hr : In 16 (gA ob 6 (p * 16 + gA ob 3 p))) :
    ∃ r c1 w1, X_pushWindow ob p g = some r ∧ PW p g ob r c1 w1 := by
  have e2 := px hp hh
  have e3 := px hp hr
  have i2 : In 64 (p * 16 + gA ob 3 p) := by rw [In, e2]; omega
  have i3 : In 64 (p * 16 + gA ob 6 (p * 16 + gA ob 3 p)) := by rw [In, e3]; omega
  unfold X_pushWindow; rw [ckn (m := 4) rfl hp, ckn (m := 4) rfl hp]
  by_cases c : gA ob 2 p < gI ob 3
  · rw [if_pos c, ckn (m := 4) rfl hp, ckn (m := 4) rfl hp]
    obtain ⟨r, e, rI, ra, rb, r3, r6, r7, r4⟩ := pwb (ob := sA ob 2 p (gA ob 2 p + 1)) (h := gA ob 3 p) hp hg hh hT
    refine ⟨r, gA ob 7, gA ob 4 p, e, rI, ?_, ?_, r3, r6, ?_, fun _ => ⟨rfl, rfl⟩, fun n => absurd c n, r7, r4⟩
    · intro k x a1 a2 a3 a4 a5; rw [ra k x a2 a3 a4 a5, gA_sA, if_neg (fun e => a1 e.1)]
    · intro k x a1 a2 a3; rw [rb k x a1 a2 a3, gA_sA, if_neg (fun e => a3 e.2)]
    · rw [if_pos c, ra 2 p (by decide) (by decide) (by decide) (by decide), gA_sA, if_pos ⟨rfl, rfl⟩]
  · rw [if_neg c, ckn (m := 64) rfl i2, ckn (m := 64) rfl i3, ckn (m := 64) rfl i3, ckn (m := 64) rfl i3]
    generalize ho : p * 16 + gA ob 6 (p * 16 + gA ob 3 p) = o at *
    have f7 : ∀ x, gA (sA ob 7 o (gA ob 7 o - 1)) 7 x = if x = o then gA ob 7 x - 1 else gA ob 7 x := fun x => by
      by_cases n : x = o
      · simp [gA_sA, n]
      · simp [gA_sA, n]
    by_cases d : gA (sA ob 7 o (gA ob 7 o - 1)) 7 o = 0
    · rw [if_pos d, ckn (m := 4) rfl hp, ckn (m := 4) rfl hp]
      obtain ⟨r, e, rI, ra, rb, r3, r6, r7, r4⟩ := pwb (ob := sA (sA ob 7 o (gA ob 7 o - 1)) 4 p (gA ob 4 p - 1)) (h := gA ob 3 p) hp hg hh hT
      refine ⟨r, gA (sA ob 7 o (gA ob 7 o - 1)) 7, gA ob 4 p - 1, e, rI, ?_, ?_, r3, r6, ?_, fun n => absurd n c, fun _ => ⟨?_, ?_⟩, r7, ?_⟩
      · intro k x a1 a2 a3 a4 a5; rw [ra k x a2 a3 a4 a5, gA_sA, if_neg (fun e => a3 e.1), gA_sA, if_neg (fun e => a5 e.1)]
      · intro k x a1 a2 a3; rw [rb k x a1 a2 a3, gA_sA, if_neg (fun e => a3 e.2), gA_sA, if_neg (fun e => a2 e.1)]
      · rw [if_neg c, ra 2 p (by decide) (by decide) (by decide) (by decide)]; rfl
      · rw [ho]; exact f7
      · rw [ho, if_pos d]
      · rw [r4]; simp [gA_sA]
    · rw [if_neg d]
      obtain ⟨r, e, rI, ra, rb, r3, r6, r7, r4⟩ := pwb (ob := sA ob 7 o (gA ob 7 o - 1)) (h := gA ob 3 p) hp hg hh hT
      refine ⟨r, gA (sA ob 7 o (gA ob 7 o - 1)) 7, gA ob 4 p, e, rI, ?_, ?_, r3, r6, ?_, fun n => absurd n c, fun _ => ⟨?_, ?_⟩, r7, r4⟩
      · intro k x a1 a2 a3 a4 a5; rw [ra k x a2 a3 a4 a5, gA_sA, if_neg (fun e => a5 e.1)]
      · intro k x a1 a2 a3; rw [rb k x a1 a2 a3, gA_sA, if_neg (fun e => a2 e.1)]
      · rw [if_neg c, ra 2 p (by decide) (by decide) (by decide) (by decide)]; rfl
      · rw [ho]; exact f7
      · rw [ho, if_neg d]
/-- one reference recorded -/
abbrev RR (p g : Int32) (ob r : Rec) (c1 : Int32 → Int32) (w1 : Int32) : Prop := (∀ k, gI r k = gI ob k) ∧ (∀ k x, k = 0 ∨ k = 9 ∨ k = 10 ∨ k = 12 ∨ 14 ≤ k → gA r k x = gA ob k x) ∧ (∀ k x, k ≤ 5 → ¬ x = p → gA r k x = gA ob k x) ∧ (gA r 1 p = gA ob 1 p + 1) ∧ (gA r 3 p = (gA ob 3 p + 1) % gI ob 3) ∧ (∀ x, gA r 6 x = if x = p * 16 + gA ob 3 p then g else gA ob 6 x) ∧ (gA r 2 p = if gA ob 2 p < gI ob 3 then gA ob 2 p + 1 else gA ob 2 p) ∧ (gA ob 2 p < gI ob 3 → c1 = gA ob 7 ∧ w1 = gA ob 4 p) ∧ (¬ gA ob 2 p < gI ob 3 → (∀ x, c1 x = if x = p * 16 + gA ob 6 (p * 16 + gA ob 3 p) then gA ob 7 x - 1 else gA ob 7 x) ∧ w1 = if c1 (p * 16 + gA ob 6 (p * 16 + gA ob 3 p)) = 0 then gA ob 4 p - 1 else gA ob 4 p) ∧ (∀ x, gA r 7 x = if x = p * 16 + g then c1 x + 1 else c1 x) ∧ (gA r 4 p = if c1 (p * 16 + g) = 0 then w1 + 1 else w1) ∧ (¬ gA r 8 (p * 16 + g) = 0) ∧ (∀ x, ¬ x = p * 16 + g → gA r 8 x = gA ob 8 x) ∧ (gA r 5 p = if gA ob 8 (p * 16 + g) = 0 then gA ob 5 p + 1 else gA ob 5 p)
theorem RR.si {p g : Int32} {ob r : Rec} {c1 : Int32 → Int32} {w1 : Int32} (h : RR p g ob r c1 w1) : ∀ k, gI r k = gI ob k := h.1
theorem RR.sa {p g : Int32} {ob r : Rec} {c1 : Int32 → Int32} {w1 : Int32} (h : RR p g ob r c1 w1) : ∀ k x, k = 0 ∨ k = 9 ∨ k = 10 ∨ k = 12 ∨ 14 ≤ k → gA r k x = gA ob k x := h.2.1
theorem RR.so {p g : Int32} {ob r : Rec} {c1 : Int32 → Int32} {w1 : Int32} (h : RR p g ob r c1 w1) : ∀ k x, k ≤ 5 → ¬ x = p → gA r k x = gA ob k x := h.2.2.1
theorem RR.vt {p g : Int32} {ob r : Rec} {c1 : Int32 → Int32} {w1 : Int32} (h : RR p g ob r c1 w1) : gA r 1 p = gA ob 1 p + 1 := h.2.2.2.1
theorem RR.hd {p g : Int32} {ob r : Rec} {c1 : Int32 → Int32} {w1 : Int32} (h : RR p g ob r c1 w1) : gA r 3 p = (gA ob 3 p + 1) % gI ob 3 := h.2.2.2.2.1
theorem RR.rg {p g : Int32} {ob r : Rec} {c1 : Int32 → Int32} {w1 : Int32} (h : RR p g ob r c1 w1) : ∀ x, gA r 6 x = if x = p * 16 + gA ob 3 p then g else gA ob 6 x := h.2.2.2.2.2.1
theorem RR.ln {p g : Int32} {ob r : Rec} {c1 : Int32 → Int32} {w1 : Int32} (h : RR p g ob r c1 w1) : gA r 2 p = if gA ob 2 p < gI ob 3 then gA ob 2 p + 1 else gA ob 2 p := h.2.2.2.2.2.2.1
theorem RR.c1l {p g : Int32} {ob r : Rec} {c1 : Int32 → Int32} {w1 : Int32} (h : RR p g ob r c1 w1) : gA ob 2 p < gI ob 3 → c1 = gA ob 7 ∧ w1 = gA ob 4 p := h.2.2.2.2.2.2.2.1
theorem RR.c1g {p g : Int32} {ob r : Rec} {c1 : Int32 → Int32} {w1 : Int32} (h : RR p g ob r c1 w1) : ¬ gA ob 2 p < gI ob 3 → (∀ x, c1 x = if x = p * 16 + gA ob 6 (p * 16 + gA ob 3 p) then gA ob 7 x - 1 else gA ob 7 x) ∧ w1 = if c1 (p * 16 + gA ob 6 (p * 16 + gA ob 3 p)) = 0 then gA ob 4 p - 1 else gA ob 4 p := h.2.2.2.2.2.2.2.2.1
theorem RR.cn {p g : Int32} {ob r : Rec} {c1 : Int32 → Int32} {w1 : Int32} (h : RR p g ob r c1 w1) : ∀ x, gA r 7 x = if x = p * 16 + g then c1 x + 1 else c1 x := h.2.2.2.2.2.2.2.2.2.1
theorem RR.ws {p g : Int32} {ob r : Rec} {c1 : Int32 → Int32} {w1 : Int32} (h : RR p g ob r c1 w1) : gA r 4 p = if c1 (p * 16 + g) = 0 then w1 + 1 else w1 := h.2.2.2.2.2.2.2.2.2.2.1
theorem RR.tn {p g : Int32} {ob r : Rec} {c1 : Int32 → Int32} {w1 : Int32} (h : RR p g ob r c1 w1) : ¬ gA r 8 (p * 16 + g) = 0 := h.2.2.2.2.2.2.2.2.2.2.2.1
theorem RR.ts {p g : Int32} {ob r : Rec} {c1 : Int32 → Int32} {w1 : Int32} (h : RR p g ob r c1 w1) : ∀ x, ¬ x = p * 16 + g → gA r 8 x = gA ob 8 x := h.2.2.2.2.2.2.2.2.2.2.2.2.1
theorem RR.tc {p g : Int32} {ob r : Rec} {c1 : Int32 → Int32} {w1 : Int32} (h : RR p g ob r c1 w1) : gA r 5 p = if gA ob 8 (p * 16 + g) = 0 then gA ob 5 p + 1 else gA ob 5 p := h.2.2.2.2.2.2.2.2.2.2.2.2.2
theorem rrb {ob : Rec} {p g : Int32} (hp : In 4 p) (hg : In 16 g) (hh : In 16 (gA ob 3 p)) (hT : ¬ gI ob 3 = 0) (hr : In 16 (gA ob 6 (p * 16 + gA ob 3 p))) :
    ∃ r c1 w1, X_recordReference_b28 ob p g (p * 16 + g) = some r ∧ RR p g ob r c1 w1 := by
  have e1 := px hp hg
  have i1 : In 64 (p * 16 + g) := by rw [In, e1]; omega
  unfold X_recordReference_b28; rw [ckn (m := 4) rfl hp, ckn (m := 4) rfl hp, ckn (m := 4) rfl hp, ckn (m := 64) rfl i1]
  generalize hob : sA (sA ob 1 p (gA ob 1 p + 1)) 11 (p * 16 + g) (gA (sA ob 1 p (gA ob 1 p + 1)) 1 p) = q
  have qI : ∀ k, gI q k = gI ob k := fun k => by rw [← hob]; rfl
  have qA : ∀ k x, ¬ k = 1 → ¬ k = 11 → gA q k x = gA ob k x := fun k x a b => by rw [← hob, gA_sA, if_neg (fun e => b e.1), gA_sA, if_neg (fun e => a e.1)]
  have qo : ∀ k x, ¬ k = 11 → ¬ x = p → gA q k x = gA ob k x := fun k x a b => by rw [← hob, gA_sA, if_neg (fun e => a e.1), gA_sA, if_neg (fun e => b e.2)]
  have q1 : gA q 1 p = gA ob 1 p + 1 := by rw [← hob]; simp [gA_sA]
  have q2 : ∀ x, gA q 2 x = gA ob 2 x := fun x => qA 2 x (by decide) (by decide)
  have q3 : ∀ x, gA q 3 x = gA ob 3 x := fun x => qA 3 x (by decide) (by decide)
  have q4 : ∀ x, gA q 4 x = gA ob 4 x := fun x => qA 4 x (by decide) (by decide)
  have q6 : ∀ x, gA q 6 x = gA ob 6 x := fun x => qA 6 x (by decide) (by decide)
  have q7 : gA q 7 = gA ob 7 := funext fun x => qA 7 x (by decide) (by decide)
  obtain ⟨r, c1, w1, e, h⟩ := pw_e (ob := q) hp hg (by rw [q3]; exact hh) (by rw [qI]; exact hT) (by rw [q3, q6]; exact hr)
  rw [e, Option.bind_some, ckn (m := 64) rfl i1]
  have hd := h.hd
  have rg := h.rg
  have ln := h.ln
  have c1l := h.c1l
  have c1g := h.c1g
  simp only [q2, q3, q4, q6, q7, qI] at hd rg ln c1l c1g
  have r8 : ∀ x, gA r 8 x = gA ob 8 x := fun x => (h.sa 8 x (by decide) (by decide) (by decide) (by decide) (by decide)).trans (qA 8 x (by decide) (by decide))
  have r5 : ∀ x, gA r 5 x = gA ob 5 x := fun x => (h.sa 5 x (by decide) (by decide) (by decide) (by decide) (by decide)).trans (qA 5 x (by decide) (by decide))
  have r1 : gA r 1 p = gA ob 1 p + 1 := (h.sa 1 p (by decide) (by decide) (by decide) (by decide) (by decide)).trans q1
  by_cases c : gA r 8 (p * 16 + g) = 0
  · rw [if_pos c, ckn (m := 64) rfl i1, ckn (m := 4) rfl hp, ckn (m := 4) rfl hp]
    generalize hz : sA (sA r 8 (p * 16 + g) 1) 5 p (gA r 5 p + 1) = z
    have zA : ∀ k x, ¬ k = 8 → ¬ k = 5 → gA z k x = gA r k x := fun k x a b => by rw [← hz, gA_sA, if_neg (fun e => b e.1), gA_sA, if_neg (fun e => a e.1)]
    have zI : ∀ k, gI z k = gI r k := fun k => by rw [← hz]; rfl
    refine ⟨z, c1, w1, rfl, fun k => (zI k).trans ((h.si k).trans (qI k)), ?_, ?_, ?_, ?_, ?_, ?_, c1l, c1g, ?_, ?_, ?_, ?_, ?_⟩
    · intro k x hk; rw [zA k x (by omega) (by omega), h.sa k x (by omega) (by omega) (by omega) (by omega) (by omega), qA k x (by omega) (by omega)]
    · intro k x hk hx
      have : gA z k x = gA r k x := by rw [← hz, gA_sA, if_neg (fun e => hx e.2), gA_sA, if_neg (by omega)]
      rw [this, h.so k x (by omega) (by omega) hx, qo k x (by omega) hx]
    · rw [zA 1 p (by decide) (by decide), r1]
    · rw [zA 3 p (by decide) (by decide), hd]
    · intro x; rw [zA 6 x (by decide) (by decide), rg]
    · rw [zA 2 p (by decide) (by decide), ln]
    · intro x; rw [zA 7 x (by decide) (by decide), h.cn]
    · rw [zA 4 p (by decide) (by decide), h.ws]
    · rw [← hz]; simp [gA_sA]
    · intro x hx; rw [← hz]; simp [gA_sA, hx, r8]
    · rw [← r8, if_pos c, ← hz]; simp [gA_sA, r5]
  · rw [if_neg c]
    refine ⟨r, c1, w1, rfl, fun k => (h.si k).trans (qI k), ?_, ?_, r1, hd, rg, ln, c1l, c1g, h.cn, h.ws, c, fun x _ => r8 x, ?_⟩
    · intro k x hk; rw [h.sa k x (by omega) (by omega) (by omega) (by omega) (by omega), qA k x (by omega) (by omega)]
    · intro k x hk hx; rw [h.so k x (by omega) (by omega) hx, qo k x (by omega) hx]
    · rw [← r8, if_neg c, r5]
theorem rr_e {ob : Rec} {p g : Int32} (hp : In 4 p) (hg : In 16 g) (hh : In 16 (gA ob 3 p)) (hT : ¬ gI ob 3 = 0) (hr : In 16 (gA ob 6 (p * 16 + gA ob 3 p))) (hf : In 32 (gA ob 9 (p * 16 + g))) :
    ∃ r c1 w1, X_recordReference ob p g = some r ∧ RR p g ob r c1 w1 := by
  have e1 := px hp hg
  have i1 : In 64 (p * 16 + g) := by rw [In, e1]; omega
  unfold X_recordReference; rw [ckn (m := 64) rfl i1, if_neg (nneg hf.1), ckn (m := 32) rfl hf]
  generalize hob : sA ob 13 (gA ob 9 (p * 16 + g)) 1 = q
  have qI : ∀ k, gI q k = gI ob k := fun k => by rw [← hob]; rfl
  have qA : ∀ k, ¬ k = 13 → gA q k = gA ob k := fun k a => funext fun x => by rw [← hob, gA_sA, if_neg (fun e => a e.1)]
  obtain ⟨r, c1, w1, e, h⟩ := rrb (ob := q) hp hg (by rw [qA 3 (by decide)]; exact hh) (by rw [qI]; exact hT) (by rw [qA 3 (by decide), qA 6 (by decide)]; exact hr)
  refine ⟨r, c1, w1, e, ?_⟩
  have h' := h
  obtain ⟨a1, a2, a3, a4, a5, a6, a7, a8, a9, a10, a11, a12, a13, a14⟩ := h'
  rw [qA 1 (by decide)] at a4
  rw [qA 3 (by decide), qI] at a5
  rw [qA 3 (by decide), qA 6 (by decide)] at a6
  rw [qA 2 (by decide), qI] at a7
  rw [qA 2 (by decide), qA 7 (by decide), qA 4 (by decide), qI] at a8
  rw [qA 2 (by decide), qA 7 (by decide), qA 4 (by decide), qA 3 (by decide), qA 6 (by decide), qI] at a9
  rw [qA 8 (by decide), qA 5 (by decide)] at a14
  refine ⟨fun k => (a1 k).trans (qI k), fun k x hk => (a2 k x hk).trans (by rw [qA k (by omega)]), fun k x hk hx => (a3 k x hk hx).trans (by rw [qA k (by omega)]), a4, a5, a6, a7, a8, a9, a10, a11, a12, fun x hx => (a13 x hx).trans (by rw [qA 8 (by decide)]), a14⟩
end pgc
section pgd
variable (NF : Nat)
def sc (ob : Rec) : Int32 := gA ob 0 0 + gA ob 0 1 + gA ob 0 2 + gA ob 0 3
abbrev LC (p : Int32) (ob r : Rec) : Prop := (∀ k, ¬ k = 5 → ¬ k = 6 → gI r k = gI ob k) ∧ (∀ k x, ¬ k = 0 → gA r k x = gA ob k x) ∧ (gA ob 0 p = 0 → gA r 0 p = 0) ∧ ((∀ q, In 4 q → gA ob 0 q = 0 ∨ gA ob 0 q = 1) → (∀ q, In 4 q → gA r 0 q = 0 ∨ gA r 0 q = 1) ∧ gI r 5 - gI r 6 - sc r = gI ob 5 - gI ob 6 - sc ob)
theorem LC.si {p : Int32} {ob r : Rec} (h : LC p ob r) : ∀ k, ¬ k = 5 → ¬ k = 6 → gI r k = gI ob k := h.1
theorem LC.sa {p : Int32} {ob r : Rec} (h : LC p ob r) : ∀ k x, ¬ k = 0 → gA r k x = gA ob k x := h.2.1
theorem LC.kp {p : Int32} {ob r : Rec} (h : LC p ob r) : gA ob 0 p = 0 → gA r 0 p = 0 := h.2.2.1
theorem LC.bl {p : Int32} {ob r : Rec} (h : LC p ob r) : (∀ q, In 4 q → gA ob 0 q = 0 ∨ gA ob 0 q = 1) → (∀ q, In 4 q → gA r 0 q = 0 ∨ gA r 0 q = 1) ∧ gI r 5 - gI r 6 - sc r = gI ob 5 - gI ob 6 - sc ob := h.2.2.2
theorem LC.rf (p : Int32) (ob : Rec) : LC p ob ob := ⟨fun _ _ _ => rfl, fun _ _ _ => rfl, id, fun h => ⟨h, rfl⟩⟩
theorem LC.tr {p : Int32} {a b c : Rec} (h : LC p a b) (g : LC p b c) : LC p a c :=
  ⟨fun k x y => (g.si k x y).trans (h.si k x y), fun k x y => (g.sa k x y).trans (h.sa k x y), fun x => g.kp (h.kp x), fun x => ⟨(g.bl (h.bl x).1).1, (g.bl (h.bl x).1).2.trans (h.bl x).2⟩⟩
theorem q4 {q : Int32} (h : In 4 q) : q = 0 ∨ q = 1 ∨ q = 2 ∨ q = 3 := by
  simp only [eq_i32, Int32.reduceToInt]; omega
theorem al3 (a b c : Int32) : a + (b + c) = b + (a + c) := by rw [← Int32.add_assoc, Int32.add_comm a b, Int32.add_assoc]
theorem arp1 (a b s t : Int32) (h : t = s + 1) : a + 1 - b - t = a - b - s := by
  subst h
  grind
theorem arp2 (a b s t : Int32) (h : s = t + 1) : a - (b + 1) - t = a - b - s := by
  subst h
  grind
theorem sc_up {ob : Rec} {q v : Int32} (hq : In 4 q) (h0 : gA ob 0 q = 0) (hv : v = 1) : sc (sA ob 0 q v) = sc ob + 1 := by
  unfold sc
  rcases q4 hq with rfl | rfl | rfl | rfl <;> simp [gA_sA, h0, hv] <;> grind
theorem sc_dn {ob : Rec} {q : Int32} (hq : In 4 q) (h0 : gA ob 0 q = 1) : sc ob = sc (sA ob 0 q 0) + 1 := by
  unfold sc
  rcases q4 hq with rfl | rfl | rfl | rfl <;> simp [gA_sA, h0] <;> grind
theorem sc_sI (ob : Rec) (k : Nat) (v : Int32) : sc (sI ob k v) = sc ob := rfl
theorem LC_s {p q : Int32} {ob : Rec} (hq : In 4 q) (hp : ¬ q = p) (h0 : gA ob 0 q = 0) : LC p ob (sI (sA ob 0 q 1) 5 (gI ob 5 + 1)) := by
  refine ⟨?_, ?_, ?_, ?_⟩
  · intro k a b; rw [gI_sI, if_neg a]; rfl
  · intro k x a; rw [gA_sI, gA_sA, if_neg (fun e => a e.1)]
  · intro e; rw [gA_sI, gA_sA, if_neg (fun e => hp e.2.symm)]; exact e
  · intro h
    refine ⟨fun t ht => ?_, ?_⟩
    · rw [gA_sI, gA_sA]
      by_cases c : t = q
      · rw [if_pos ⟨rfl, c⟩]; exact Or.inr rfl
      · rw [if_neg (fun e => c e.2)]; exact h t ht
    · rw [sc_sI]
      show gI ob 5 + 1 - gI ob 6 - _ = _
      exact arp1 _ _ _ _ (sc_up hq h0 rfl)
theorem LC_r {p q : Int32} {ob : Rec} (hq : In 4 q) (h0 : ¬ gA ob 0 q = 0) : LC p ob (sI (sA ob 0 q 0) 6 (gI ob 6 + 1)) := by
  refine ⟨?_, ?_, ?_, ?_⟩
  · intro k a b; rw [gI_sI, if_neg b]; rfl
  · intro k x a; rw [gA_sI, gA_sA, if_neg (fun e => a e.1)]
  · intro e; rw [gA_sI, gA_sA]; split
    · rfl
    · exact e
  · intro h
    refine ⟨fun t ht => ?_, ?_⟩
    · rw [gA_sI, gA_sA]
      by_cases c : t = q
      · rw [if_pos ⟨rfl, c⟩]; exact Or.inl rfl
      · rw [if_neg (fun e => c e.2)]; exact h t ht
    · rw [sc_sI]
      show gI ob 5 - (gI ob 6 + 1) - _ = _
      exact arp2 _ _ _ _ (sc_dn hq ((h q hq).resolve_left h0))
theorem at_e' (hNF : 70 < NF) {ob : Rec} (hP : (gI ob 0).toInt ≤ 4) : ∃ v, X_activeTotal NF ob = some v := by
  have l : ∀ (m fuel : Nat) (a i : Int32), m < fuel → 0 ≤ i.toInt → i.toInt ≤ 4 → 4 - i.toInt ≤ m → ∃ v, X_activeTotal_l4 NF ob fuel a i = some v := by
    intro m
    induction m with
    | zero =>
      intro fuel a i hfu h0 h1 h2
      obtain ⟨n, rfl⟩ : ∃ n, fuel = n + 1 := ⟨fuel - 1, by omega⟩
      refine ⟨a, ?_⟩
      show X_activeTotal_w4 NF ob _ a i = _
      unfold X_activeTotal_w4; rw [if_neg (by rw [lt_i]; omega)]
    | succ m ih =>
      intro fuel a i hfu h0 h1 h2
      obtain ⟨n, rfl⟩ : ∃ n, fuel = n + 1 := ⟨fuel - 1, by omega⟩
      show ∃ v, X_activeTotal_w4 NF ob (X_activeTotal_l4 NF ob n) a i = _
      unfold X_activeTotal_w4
      by_cases hc : i < gI ob 0
      · have hc' := lt_i.mp hc
        have ei := s1 (i := i) (by omega)
        rw [if_pos hc, ckn (m := 4) rfl ⟨h0, by omega⟩]
        by_cases d : gA ob 0 i = 0
        · rw [if_pos d, ckn (m := 4) rfl ⟨h0, by omega⟩]; exact ih n _ (i + 1) (by omega) (by omega) (by omega) (by omega)
        · rw [if_neg d]; exact ih n _ (i + 1) (by omega) (by omega) (by omega) (by omega)
      · rw [if_neg hc]; exact ⟨a, rfl⟩
  exact l 4 NF 0 0 (by omega) (by decide) (by decide) (by decide)
theorem pk_e (hNF : 70 < NF) {ob : Rec} {p : Int32} (hP : 1 ≤ (gI ob 0).toInt ∧ (gI ob 0).toInt ≤ 4) : ∃ v, X_pickProcessToSuspend NF ob p = some v ∧ (v < 0 ∨ (In 4 v ∧ ¬ v = p ∧ gA ob 0 v = 0)) := by
  have l : ∀ (m fuel : Nat) (i : Int32), m < fuel → -1 ≤ i.toInt → i.toInt < 4 → i.toInt + 1 ≤ m → ∃ v, X_pickProcessToSuspend_l7 NF ob fuel p i = some v ∧ (v < 0 ∨ (In 4 v ∧ ¬ v = p ∧ gA ob 0 v = 0)) := by
    intro m
    induction m with
    | zero =>
      intro fuel i hfu h0 h1 h2
      obtain ⟨n, rfl⟩ : ∃ n, fuel = n + 1 := ⟨fuel - 1, by omega⟩
      refine ⟨-1, ?_, Or.inl (by decide)⟩
      show X_pickProcessToSuspend_w7 NF ob _ p i = _
      unfold X_pickProcessToSuspend_w7; rw [if_pos (by rw [neg_i]; omega)]
    | succ m ih =>
      intro fuel i hfu h0 h1 h2
      obtain ⟨n, rfl⟩ : ∃ n, fuel = n + 1 := ⟨fuel - 1, by omega⟩
      show ∃ v, X_pickProcessToSuspend_w7 NF ob (X_pickProcessToSuspend_l7 NF ob n) p i = _ ∧ _
      unfold X_pickProcessToSuspend_w7
      by_cases hc : i < 0
      · rw [if_pos hc]; exact ⟨-1, rfl, Or.inl (by decide)⟩
      · have hc' := nneg' hc
        have ei : (i + (-1)).toInt = i.toInt - 1 := by
          rw [ad (by show -2147483648 ≤ i.toInt + -1 ∧ i.toInt + -1 < 2147483648; omega)]; rfl
        have nx := ih n (i + (-1)) (by omega) (by omega) (by omega) (by omega)
        rw [if_neg hc]
        by_cases d : i = p
        · rw [if_pos d]; exact nx
        · rw [if_neg d, ckn (m := 4) rfl ⟨hc', h1⟩]
          by_cases e : gA ob 0 i = 0
          · rw [if_pos e, ckn (m := 4) rfl ⟨hc', h1⟩]
            by_cases g : 0 < gA ob 4 i
            · rw [if_pos g]; exact ⟨i, rfl, Or.inr ⟨⟨hc', h1⟩, d, e⟩⟩
            · rw [if_neg g]; exact nx
          · rw [if_neg e]; exact nx
  have e : (gI ob 0 - 1).toInt = (gI ob 0).toInt - 1 := by
    rw [sb (by show -2147483648 ≤ (gI ob 0).toInt - 1 ∧ (gI ob 0).toInt - 1 < 2147483648; omega)]; rfl
  exact l 4 NF _ (by omega) (by omega) (by omega) (by omega)
theorem lc67 (hNF : 70 < NF) (p P : Int32) (hP : 1 ≤ P.toInt ∧ P.toInt ≤ 4) : ∀ (m fuel : Nat) (ob : Rec) (i : Int32), m < fuel → gI ob 0 = P → 0 ≤ i.toInt → i.toInt ≤ 4 → 4 - i.toInt ≤ m → ∃ r, X_loadControl_l67 NF fuel ob i = some r ∧ LC p ob r := by
  intro m
  induction m with
  | zero =>
    intro fuel ob i hfu h h0 h1 h2
    obtain ⟨n, rfl⟩ : ∃ n, fuel = n + 1 := ⟨fuel - 1, by omega⟩
    refine ⟨ob, ?_, LC.rf p ob⟩
    show X_loadControl_w67 NF _ ob i = _
    unfold X_loadControl_w67; rw [h, if_neg (by rw [lt_i]; omega)]
  | succ m ih =>
    intro fuel ob i hfu h h0 h1 h2
    obtain ⟨n, rfl⟩ : ∃ n, fuel = n + 1 := ⟨fuel - 1, by omega⟩
    show ∃ r, X_loadControl_w67 NF (X_loadControl_l67 NF n) ob i = _ ∧ _
    unfold X_loadControl_w67; rw [h]
    by_cases hc : i < P
    · have hc' := lt_i.mp hc
      have ei := s1 (i := i) (by omega)
      have hi : In 4 i := ⟨h0, by omega⟩
      have nx := fun ob' (e : gI ob' 0 = P) => ih n ob' (i + 1) (by omega) e (by omega) (by omega) (by omega)
      rw [if_pos hc, ckn (m := 4) rfl hi]
      by_cases d : gA ob 0 i = 0
      · rw [if_pos d]; exact nx ob h
      · obtain ⟨v, e⟩ := at_e' NF hNF (ob := ob) (by rw [h]; omega)
        rw [if_neg d, e, Option.bind_some, ckn (m := 4) rfl hi]
        by_cases g : gI ob 2 < v + gA ob 4 i
        · rw [if_pos g]; exact nx ob h
        · rw [if_neg g, ckn (m := 4) rfl hi]
          obtain ⟨r, a, b⟩ := nx (sI (sA ob 0 i 0) 6 (gI ob 6 + 1)) h
          exact ⟨r, a, (LC_r hi d).tr b⟩
    · rw [if_neg hc]; exact ⟨ob, rfl, LC.rf p ob⟩
theorem lc_e' (hNF : 70 < NF) {p : Int32} {ob : Rec} (hP : 1 ≤ (gI ob 0).toInt ∧ (gI ob 0).toInt ≤ 4) : ∃ r, X_loadControl NF ob p = some r ∧ LC p ob r := by
  have l : ∀ (m fuel : Nat) (ob : Rec) (P i : Int32), m < fuel → gI ob 0 = P → 1 ≤ P.toInt ∧ P.toInt ≤ 4 → 0 ≤ i.toInt → i.toInt ≤ 4 → 4 - i.toInt ≤ m → ∃ r, X_loadControl_l2 NF fuel ob p i = some r ∧ LC p ob r := by
    intro m
    induction m with
    | zero =>
      intro fuel ob P i hfu h hP h0 h1 h2
      obtain ⟨n, rfl⟩ : ∃ n, fuel = n + 1 := ⟨fuel - 1, by omega⟩
      show ∃ r, X_loadControl_w2 NF _ ob p i = _ ∧ _
      unfold X_loadControl_w2; rw [h, if_neg (by rw [lt_i]; omega)]
      exact lc67 NF hNF p P hP 4 NF ob 0 (by omega) h (by decide) (by decide) (by decide)
    | succ m ih =>
      intro fuel ob P i hfu h hP h0 h1 h2
      obtain ⟨n, rfl⟩ : ∃ n, fuel = n + 1 := ⟨fuel - 1, by omega⟩
      have fin := lc67 NF hNF p P hP 4 NF ob 0 (by omega) h (by decide) (by decide) (by decide)
      show ∃ r, X_loadControl_w2 NF (X_loadControl_l2 NF n) ob p i = _ ∧ _
      unfold X_loadControl_w2; rw [h]
      by_cases hc : i < P
      · have hc' := lt_i.mp hc
        have ei := s1 (i := i) (by omega)
        obtain ⟨v, e⟩ := at_e' NF hNF (ob := ob) (by rw [h]; omega)
        rw [if_pos hc, e, Option.bind_some]
        by_cases d : gI ob 2 < v
        · obtain ⟨q, e2, hq⟩ := pk_e NF hNF (ob := ob) (p := p) (by rw [h]; exact hP)
          rw [if_pos d, e2, Option.bind_some]
          by_cases g : q < 0
          · rw [if_pos g]; exact fin
          · have hq' := hq.resolve_left g
            rw [if_neg g, ckn (m := 4) rfl hq'.1]
            obtain ⟨r, a, b⟩ := ih n (sI (sA ob 0 q 1) 5 (gI ob 5 + 1)) P (i + 1) (by omega) h hP (by omega) (by omega) (by omega)
            exact ⟨r, a, (LC_s hq'.1 hq'.2.1 hq'.2.2).tr b⟩
        · rw [if_neg d]; exact fin
      · rw [if_neg hc]; exact fin
  exact l 4 NF ob _ 0 (by omega) rfl hP (by decide) (by decide) (by decide)
theorem vpy {ob : Rec} {p : Int32} (hp : In (gI ob 0).toInt p) : X_validPid ob p = some 1 := by
  unfold X_validPid; rw [if_neg (nneg hp.1), if_pos (lt_i.mpr hp.2)]
theorem ck_e {ob : Rec} (h : PI ob) {p a : Int32} (hp : In (gI ob 0).toInt p) (ha : In (4 * (gI ob 1).toInt) a) : X_check ob p a = some (if gA ob 0 p = 0 then 0 else 3) := by
  have hP := h.hP
  have hN := h.hN
  have e : (gI ob 1 * 4).toInt = (gI ob 1).toInt * 4 := ml (by show -2147483648 ≤ (gI ob 1).toInt * 4 ∧ (gI ob 1).toInt * 4 < 2147483648; omega)
  unfold X_check; rw [vpy hp, Option.bind_some, if_neg (by decide), if_neg (nneg ha.1), if_pos (by rw [lt_i, e]; omega), ckn (m := 4) rfl ⟨hp.1, by omega⟩]
  split <;> rfl
/-- what recordReference needs of the window -/
abbrev WB (ob : Rec) (p : Int32) : Prop := In 16 (gA ob 3 p) ∧ In 16 (gA ob 6 (p * 16 + gA ob 3 p))
theorem a4 {a : Int32} {N : Int} (hN : N ≤ 16) (ha : In (4 * N) a) : (a / 4).toInt = a.toInt / 4 ∧ (a % 4).toInt = a.toInt % 4 ∧ In N (a / 4) ∧ In 4 (a % 4) := by
  have e1 : (a / 4).toInt = a.toInt / 4 := dv (y := 4) ha.1 (by decide)
  have e2 : (a % 4).toInt = a.toInt % 4 := md (y := 4) ha.1 (by decide)
  refine ⟨e1, e2, ?_, ?_⟩
  · rw [In, e1]; omega
  · rw [In, e2]; omega
theorem st_e (hNF : 70 < NF) {ob : Rec} (h : PI ob) {p a v : Int32} (hp : In (gI ob 0).toInt p) (ha : In (4 * (gI ob 1).toInt) a) (hz : gA ob 0 p = 0) (hT : ¬ gI ob 3 = 0) (hw : WB ob p) :
    ∃ o1 o2 c1 w1 o3, X_store NF ob p a v = some (0, sI o3 4 0) ∧ (∀ k, ¬ k = 7 → gI o1 k = gI ob k) ∧ (∀ k x, k ≤ 8 → gA o1 k x = gA ob k x) ∧ RR p (a / 4) o1 o2 c1 w1 ∧ X_loadControl NF o2 p = some o3 ∧ LC p o2 o3 ∧ PI (sI o3 4 0) ∧ gA o3 0 p = 0 ∧
      ∀ y w, In 64 y → In 4 w → cont (sI o3 4 0) y w = if y = p * 16 + a / 4 ∧ w = a % 4 then v else cont ob y w := by
  have hP := h.hP
  have hN := h.hN
  have hF := h.hF
  obtain ⟨d1, d2, d3, d4⟩ := a4 (N := (gI ob 1).toInt) (by omega) ha
  obtain ⟨f, q, e, hf, kq, q9⟩ := er_e NF hNF h hp d3
  have hf64 : In 64 f := ⟨hf.1, by omega⟩
  have hf32 : In 32 f := ⟨hf.1, by omega⟩
  have exf := ix hf64 d4
  have exi := px (p := p) (g := a / 4) ⟨hp.1, by omega⟩ ⟨d3.1, by omega⟩
  have i1 : In 64 (p * 16 + a / 4) := by rw [In, exi]; omega
  unfold X_store
  rw [ck_e h hp ha, if_pos hz, Option.bind_some, if_pos rfl, e, bind2_some, ckn (m := 128) rfl (by rw [In, exf]; omega), ckn (m := 32) rfl hf32]
  generalize ho : sA (sA q 15 (f * 4 + a % 4) v) 14 f 1 = o1
  have oI : ∀ k, gI o1 k = gI q k := fun k => by rw [← ho]; rfl
  have oA : ∀ k x, ¬ k = 14 → ¬ k = 15 → gA o1 k x = gA q k x := fun k x b c => by rw [← ho, gA_sA, if_neg (fun e => b e.1), gA_sA, if_neg (fun e => c e.1)]
  have e9 : gA o1 9 = gA q 9 := funext fun x => oA 9 x (by decide) (by decide)
  have e10 : gA o1 10 = gA q 10 := funext fun x => oA 10 x (by decide) (by decide)
  have e12 : gA o1 12 = gA q 12 := funext fun x => oA 12 x (by decide) (by decide)
  have e16 : gA o1 16 = gA q 16 := funext fun x => oA 16 x (by decide) (by decide)
  have e17 : gA o1 17 = gA q 17 := funext fun x => oA 17 x (by decide) (by decide)
  obtain ⟨p1, p2⟩ := PM_st (fd' := gA o1 14) (fw' := gA o1 15) (v := v) (o := a % 4) kq.pi i1 q9 hf.1 (by rw [← ho]; simp [gA_sA]) (fun y n => by rw [← ho]; simp [gA_sA, n])
    (fun g w hg hw => by
      rw [← ho]
      by_cases n : g = f ∧ w = a % 4
      · rw [if_pos n, n.1, n.2]; simp [gA_sA]
      · rw [if_neg n, gA_sA, if_neg (fun e => absurd e.1 (by decide)), gA_sA, if_neg (fun e => n (ix_inj ⟨hg.1, by omega⟩ hf64 hw d4 e.2))])
  have po : PI o1 := by
    show PM (gI o1 0) (gI o1 1) (gI o1 2) (gI o1 7) (gA o1 9) (gA o1 10) (gA o1 12) (gA o1 14) (gA o1 15) (gA o1 16) (gA o1 17)
    rw [oI, oI, oI, oI, e9, e10, e12, e16, e17]; exact p1
  have s8 : ∀ k x, k ≤ 8 → gA o1 k x = gA ob k x := fun k x hk => (oA k x (by omega) (by omega)).trans (kq.sa k x hk)
  obtain ⟨o2, c1, w1, e2, rr⟩ := rr_e (ob := o1) (p := p) (g := a / 4) ⟨hp.1, by omega⟩ ⟨d3.1, by omega⟩ (by rw [s8 3 p (by omega)]; exact hw.1) (by rw [oI, kq.si 3 (by decide)]; exact hT) (by rw [s8 3 p (by omega), s8 6 _ (by omega)]; exact hw.2) (by rw [e9, q9]; exact hf32)
  rw [e2, Option.bind_some]
  obtain ⟨o3, e3, lc⟩ := lc_e' NF hNF (p := p) (ob := o2) (by rw [rr.si, oI, kq.si 0 (by decide)]; exact hP)
  rw [e3, Option.bind_some]
  have c3 : ∀ k x, k = 9 ∨ k = 10 ∨ k = 12 ∨ 14 ≤ k → gA (sI o3 4 0) k x = gA o1 k x := fun k x hk => (lc.sa k x (by omega)).trans (rr.sa k x (by omega))
  refine ⟨o1, o2, c1, w1, o3, rfl, fun k hk => (oI k).trans (kq.si k hk), s8, rr, e3, lc, ?_, ?_, ?_⟩
  · exact PI_c po (fun k hk => by rw [gI_sI, if_neg (by omega), lc.si k (by omega) (by omega), rr.si]) c3
  · exact lc.kp (by rw [rr.sa 0 p (by omega), s8 0 p (by omega)]; exact hz)
  · intro y w hy hw
    rw [cont_c c3]
    show ct (gA o1 9) (gA o1 10) (gA o1 15) (gA o1 17) y w = _
    rw [e9, e10, e17, p2 y w hy hw]
    split
    · rfl
    · exact kq.ct y w hy hw
theorem st_s {ob : Rec} (h : PI ob) {p a v : Int32} (hp : In (gI ob 0).toInt p) (ha : In (4 * (gI ob 1).toInt) a) (hz : ¬ gA ob 0 p = 0) : X_store NF ob p a v = some (3, sI ob 4 3) := by
  unfold X_store; rw [ck_e h hp ha, if_neg hz, Option.bind_some, if_neg (by decide)]
theorem ld_s {ob : Rec} (h : PI ob) {p a : Int32} (hp : In (gI ob 0).toInt p) (ha : In (4 * (gI ob 1).toInt) a) (hz : ¬ gA ob 0 p = 0) : X_load NF ob p a = some (-9223372036854775808, sI ob 4 3) := by
  unfold X_load; rw [ck_e h hp ha, if_neg hz, Option.bind_some, if_neg (by decide)]
theorem ld_e (hNF : 70 < NF) {ob : Rec} (h : PI ob) {p a : Int32} (hp : In (gI ob 0).toInt p) (ha : In (4 * (gI ob 1).toInt) a) (hz : gA ob 0 p = 0) (hT : ¬ gI ob 3 = 0) (hw : WB ob p) :
    ∃ o1 o2 c1 w1 o3, X_load NF ob p a = some ((cont ob (p * 16 + a / 4) (a % 4)).toInt64, sI o3 4 0) ∧ (∀ k, ¬ k = 7 → gI o1 k = gI ob k) ∧ (∀ k x, k ≤ 8 → gA o1 k x = gA ob k x) ∧ RR p (a / 4) o1 o2 c1 w1 ∧ X_loadControl NF o2 p = some o3 ∧ LC p o2 o3 ∧ PI (sI o3 4 0) ∧ gA o3 0 p = 0 ∧
      ∀ y w, In 64 y → In 4 w → cont (sI o3 4 0) y w = cont ob y w := by
  have hP := h.hP
  have hN := h.hN
  have hF := h.hF
  obtain ⟨d1, d2, d3, d4⟩ := a4 (N := (gI ob 1).toInt) (by omega) ha
  obtain ⟨f, q, e, hf, kq, q9⟩ := er_e NF hNF h hp d3
  have hf64 : In 64 f := ⟨hf.1, by omega⟩
  have hf32 : In 32 f := ⟨hf.1, by omega⟩
  have exf := ix hf64 d4
  have exi := px (p := p) (g := a / 4) ⟨hp.1, by omega⟩ ⟨d3.1, by omega⟩
  have i1 : In 64 (p * 16 + a / 4) := by rw [In, exi]; omega
  unfold X_load
  rw [ck_e h hp ha, if_pos hz, Option.bind_some, if_pos rfl, e, bind2_some, ckn (m := 128) rfl (by rw [In, exf]; omega)]
  obtain ⟨o2, c1, w1, e2, rr⟩ := rr_e (ob := q) (p := p) (g := a / 4) ⟨hp.1, by omega⟩ ⟨d3.1, by omega⟩ (by rw [kq.sa 3 p (by omega)]; exact hw.1) (by rw [kq.si 3 (by decide)]; exact hT) (by rw [kq.sa 3 p (by omega), kq.sa 6 _ (by omega)]; exact hw.2) (by rw [q9]; exact hf32)
  rw [e2, Option.bind_some]
  obtain ⟨o3, e3, lc⟩ := lc_e' NF hNF (p := p) (ob := o2) (by rw [rr.si, kq.si 0 (by decide)]; exact hP)
  rw [e3, Option.bind_some]
  have c3 : ∀ k x, k = 9 ∨ k = 10 ∨ k = 12 ∨ 14 ≤ k → gA (sI o3 4 0) k x = gA q k x := fun k x hk => (lc.sa k x (by omega)).trans (rr.sa k x (by omega))
  have ev : gA q 15 (f * 4 + a % 4) = cont ob (p * 16 + a / 4) (a % 4) := by
    rw [← kq.ct _ _ i1 d4]
    show _ = ct (gA q 9) (gA q 10) (gA q 15) (gA q 17) _ _
    unfold ct; rw [q9, if_neg (nneg hf.1)]
  refine ⟨q, o2, c1, w1, o3, by rw [ev], fun k hk => kq.si k hk, kq.sa, rr, e3, lc, ?_, ?_, ?_⟩
  · exact PI_c kq.pi (fun k hk => by rw [gI_sI, if_neg (by omega), lc.si k (by omega) (by omega), rr.si]) c3
  · exact lc.kp (by rw [rr.sa 0 p (by omega), kq.sa 0 p (by omega)]; exact hz)
  · intro y w hy hw
    rw [cont_c c3]; exact kq.ct y w hy hw
/-- one page dropped -/
abbrev DP (x : Int32) (ob r : Rec) : Prop := (PI r) ∧ (∀ y w, In 64 y → In 4 w → cont r y w = if y = x then 0 else cont ob y w) ∧ (∀ k, gI r k = gI ob k) ∧ (∀ k y, k ≤ 6 → gA r k y = gA ob k y) ∧ (∀ y, gA r 7 y = if y = x then 0 else gA ob 7 y) ∧ (∀ y, gA r 8 y = if y = x then 0 else gA ob 8 y)
theorem DP.pi {x : Int32} {ob r : Rec} (h : DP x ob r) : PI r := h.1
theorem DP.ct {x : Int32} {ob r : Rec} (h : DP x ob r) : ∀ y w, In 64 y → In 4 w → cont r y w = if y = x then 0 else cont ob y w := h.2.1
theorem DP.si {x : Int32} {ob r : Rec} (h : DP x ob r) : ∀ k, gI r k = gI ob k := h.2.2.1
theorem DP.sa {x : Int32} {ob r : Rec} (h : DP x ob r) : ∀ k y, k ≤ 6 → gA r k y = gA ob k y := h.2.2.2.1
theorem DP.s7 {x : Int32} {ob r : Rec} (h : DP x ob r) : ∀ y, gA r 7 y = if y = x then 0 else gA ob 7 y := h.2.2.2.2.1
theorem DP.s8 {x : Int32} {ob r : Rec} (h : DP x ob r) : ∀ y, gA r 8 y = if y = x then 0 else gA ob 8 y := h.2.2.2.2.2
theorem dp_e {ob : Rec} (h : PI ob) {x : Int32} (hx : In 64 x) : ∃ r, X_discardPage ob x = some r ∧ DP x ob r := by
  have hF := h.hF
  have fin : ∀ (o1 : Rec), (gA o1 10 x = gA ob 10 x) → PM (gI o1 0) (gI o1 1) (gI o1 2) (gI o1 7) (gA o1 9) (gA o1 10) (gA o1 12) (gA o1 14) (gA o1 15) (gA o1 16) (gA o1 17) → True := fun _ _ _ => trivial
  have b64 : ∀ o : Rec, X_discardPage_b64 o x = some (sA (sA (sA o 7 x 0) 8 x 0) 11 x 0) := fun o => by
    unfold X_discardPage_b64; rw [ckn (m := 64) rfl hx, ckn (m := 64) rfl hx, ckn (m := 64) rfl hx]
  have b39 : ∀ o : Rec, (∀ k, gI o k = gI ob k) → (∀ k y, ¬ k = 9 → ¬ k = 12 → ¬ k = 13 → ¬ k = 14 → gA o k y = gA ob k y) → gA o 9 x < 0 → (∀ y, ¬ y = x → gA o 9 y = gA ob 9 y) →
      (0 ≤ (gA ob 9 x).toInt → gA o 12 (gA ob 9 x) = -1) → (∀ y, (0 ≤ (gA ob 9 x).toInt → ¬ y = gA ob 9 x) → gA o 12 y = gA ob 12 y) → (∀ y, (0 ≤ (gA ob 9 x).toInt → ¬ y = gA ob 9 x) → gA o 14 y = gA ob 14 y) →
      ∃ r, X_discardPage_b39 o x = some r ∧ DP x ob r := by
    intro o oI oA p1 p2 f1 f2 f3
    have o10 : ∀ y, gA o 10 y = gA ob 10 y := fun y => oA 10 y (by decide) (by decide) (by decide) (by decide)
    have e15 : gA o 15 = gA ob 15 := funext fun y => oA 15 y (by decide) (by decide) (by decide) (by decide)
    have e17 : gA o 17 = gA ob 17 := funext fun y => oA 17 y (by decide) (by decide) (by decide) (by decide)
    unfold X_discardPage_b39; rw [ckn (m := 64) rfl hx, o10]
    by_cases c : gA ob 10 x < 0
    · rw [if_pos c, b64]
      generalize hr : sA (sA (sA o 7 x 0) 8 x 0) 11 x 0 = r
      have rI : ∀ k, gI r k = gI ob k := fun k => by rw [← hr]; exact oI k
      have rA : ∀ k y, ¬ k = 7 → ¬ k = 8 → ¬ k = 11 → gA r k y = gA o k y := fun k y a b d => by rw [← hr]; simp [gA_sA, a, b, d]
      have g : ∀ k, 12 ≤ k ∨ k = 9 ∨ k = 10 → gA r k = gA o k := fun k hk => funext fun y => rA k y (by omega) (by omega) (by omega)
      obtain ⟨z1, z2⟩ := PM_dis (pf' := gA o 9) (ps' := gA o 10) (fo' := gA o 12) (fd' := gA o 14) (su' := gA o 16) h hx p1 p2 (by rw [o10]; exact c) (fun y _ => o10 y) f1 f2 f3 (fun a => absurd c (nneg a)) (fun y _ => oA 16 y (by decide) (by decide) (by decide) (by decide))
      refine ⟨r, rfl, ⟨?_, ?_, rI, ?_, ?_, ?_⟩⟩
      · show PM (gI r 0) (gI r 1) (gI r 2) (gI r 7) (gA r 9) (gA r 10) (gA r 12) (gA r 14) (gA r 15) (gA r 16) (gA r 17)
        rw [rI, rI, rI, rI, g 9 (by omega), g 10 (by omega), g 12 (by omega), g 14 (by omega), g 15 (by omega), g 16 (by omega), g 17 (by omega), e15, e17]; exact z1
      · intro y w hy hw
        show ct (gA r 9) (gA r 10) (gA r 15) (gA r 17) y w = _
        rw [g 9 (by omega), g 10 (by omega), g 15 (by omega), g 17 (by omega), e15, e17]; exact z2 y w hy hw
      · intro k y hk; rw [rA k y (by omega) (by omega) (by omega), oA k y (by omega) (by omega) (by omega) (by omega)]
      · intro y; rw [← hr]; simp [gA_sA, oA 7 y]
      · intro y; rw [← hr]; simp [gA_sA, oA 8 y]
    · have sl := h.slt x hx (nneg' c)
      rw [if_neg c, ckn (m := 64) rfl sl.2.1, ckn (m := 64) rfl hx, b64]
      generalize hr : sA (sA (sA (sA (sA o 16 (gA ob 10 x) 0) 10 x (-1)) 7 x 0) 8 x 0) 11 x 0 = r
      have rI : ∀ k, gI r k = gI ob k := fun k => by rw [← hr]; exact oI k
      have rA : ∀ k y, ¬ k = 7 → ¬ k = 8 → ¬ k = 11 → ¬ k = 10 → ¬ k = 16 → gA r k y = gA o k y := fun k y a b d e f => by rw [← hr]; simp [gA_sA, a, b, d, e, f]
      have g : ∀ k, k = 12 ∨ k = 14 ∨ k = 15 ∨ k = 17 ∨ k = 9 → gA r k = gA o k := fun k hk => funext fun y => rA k y (by omega) (by omega) (by omega) (by omega) (by omega)
      obtain ⟨z1, z2⟩ := PM_dis (pf' := gA o 9) (ps' := gA r 10) (fo' := gA o 12) (fd' := gA o 14) (su' := gA r 16) h hx p1 p2 (by rw [← hr]; simp [gA_sA]) (fun y n => by rw [← hr]; simp [gA_sA, n, o10]) f1 f2 f3 (fun a => by rw [← hr]; simp [gA_sA]) (fun y n => by
        have : ¬ y = gA ob 10 x := n (nneg' c)
        rw [← hr]; simp [gA_sA, this, oA 16 y])
      refine ⟨r, rfl, ⟨?_, ?_, rI, ?_, ?_, ?_⟩⟩
      · show PM (gI r 0) (gI r 1) (gI r 2) (gI r 7) (gA r 9) (gA r 10) (gA r 12) (gA r 14) (gA r 15) (gA r 16) (gA r 17)
        rw [rI, rI, rI, rI, g 9 (by omega), g 12 (by omega), g 14 (by omega), g 15 (by omega), g 17 (by omega), e15, e17]; exact z1
      · intro y w hy hw
        show ct (gA r 9) (gA r 10) (gA r 15) (gA r 17) y w = _
        rw [g 9 (by omega), g 15 (by omega), g 17 (by omega), e15, e17]; exact z2 y w hy hw
      · intro k y hk; rw [rA k y (by omega) (by omega) (by omega) (by omega) (by omega), oA k y (by omega) (by omega) (by omega) (by omega)]
      · intro y; rw [← hr]; simp [gA_sA, oA 7 y]
      · intro y; rw [← hr]; simp [gA_sA, oA 8 y]
  unfold X_discardPage; rw [ckn (m := 64) rfl hx]
  by_cases c : gA ob 9 x < 0
  · rw [if_pos c]
    exact b39 ob (fun _ => rfl) (fun _ _ _ _ _ _ => rfl) c (fun _ _ => rfl) (fun a => absurd c (nneg a)) (fun _ _ => rfl) (fun _ _ => rfl)
  · have fr := h.frm x hx (nneg' c)
    have hf32 : In 32 (gA ob 9 x) := ⟨fr.1.1, by omega⟩
    rw [if_neg c, ckn (m := 32) rfl hf32, ckn (m := 32) rfl hf32, ckn (m := 32) rfl hf32, ckn (m := 64) rfl hx]
    refine b39 _ (fun _ => rfl) (fun k y a1 a2 a3 a4 => by simp [gA_sA, a1, a2, a3, a4]) (by simp [gA_sA]) (fun y n => by simp [gA_sA, n]) (fun _ => by simp [gA_sA]) (fun y n => ?_) (fun y n => ?_)
    · have : ¬ y = gA ob 9 x := n (nneg' c)
      simp [gA_sA, this]
    · have : ¬ y = gA ob 9 x := n (nneg' c)
      simp [gA_sA, this]
theorem ct_nv {ob : Rec} (h : PI ob) {y w : Int32} (hy : In 64 y) (hn : ¬ VI (gI ob 0) (gI ob 1) y) : cont ob y w = 0 := by
  show ct _ _ _ _ _ _ = _
  unfold ct
  rw [if_pos, if_pos]
  · refine Classical.byContradiction fun c => ?_
    exact hn (h.slt y hy (nneg' c)).1
  · refine Classical.byContradiction fun c => ?_
    have f := h.frm y hy (nneg' c)
    have o := h.own _ f.1 (by rw [f.2]; exact hy.1)
    rw [f.2] at o; exact hn o.1
/-- all pages of p dropped, up to its fields -/
abbrev DR (p : Int32) (ob r : Rec) : Prop := (PI r) ∧ (∀ y w, In 64 y → In 4 w → cont r y w = if y.toInt / 16 = p.toInt then 0 else cont ob y w) ∧ (∀ k, gI r k = gI ob k) ∧ (∀ k y, k ≤ 6 → gA r k y = gA ob k y) ∧ (∀ y, In 64 y → y.toInt % 16 < (gI ob 1).toInt → gA r 7 y = if y.toInt / 16 = p.toInt then 0 else gA ob 7 y) ∧ (∀ y, In 64 y → y.toInt % 16 < (gI ob 1).toInt → gA r 8 y = if y.toInt / 16 = p.toInt then 0 else gA ob 8 y) ∧ (∀ k y, k = 7 ∨ k = 8 → In 64 y → ¬ y.toInt % 16 < (gI ob 1).toInt → gA r k y = gA ob k y)
theorem DR.pi {p : Int32} {ob r : Rec} (h : DR p ob r) : PI r := h.1
theorem DR.ct {p : Int32} {ob r : Rec} (h : DR p ob r) : ∀ y w, In 64 y → In 4 w → cont r y w = if y.toInt / 16 = p.toInt then 0 else cont ob y w := h.2.1
theorem DR.si {p : Int32} {ob r : Rec} (h : DR p ob r) : ∀ k, gI r k = gI ob k := h.2.2.1
theorem DR.sa {p : Int32} {ob r : Rec} (h : DR p ob r) : ∀ k y, k ≤ 6 → gA r k y = gA ob k y := h.2.2.2.1
theorem DR.s7 {p : Int32} {ob r : Rec} (h : DR p ob r) : ∀ y, In 64 y → y.toInt % 16 < (gI ob 1).toInt → gA r 7 y = if y.toInt / 16 = p.toInt then 0 else gA ob 7 y := h.2.2.2.2.1
theorem DR.s8 {p : Int32} {ob r : Rec} (h : DR p ob r) : ∀ y, In 64 y → y.toInt % 16 < (gI ob 1).toInt → gA r 8 y = if y.toInt / 16 = p.toInt then 0 else gA ob 8 y := h.2.2.2.2.2.1
theorem DR.sn {p : Int32} {ob r : Rec} (h : DR p ob r) : ∀ k y, k = 7 ∨ k = 8 → In 64 y → ¬ y.toInt % 16 < (gI ob 1).toInt → gA r k y = gA ob k y := h.2.2.2.2.2.2
theorem rl_l {p : Int32} (N : Int32) (hN : 4 ≤ N.toInt ∧ N.toInt ≤ 16) (hp : In 4 p) : ∀ (m fuel : Nat) (ob : Rec) (i : Int32), m < fuel → PI ob → gI ob 1 = N → 0 ≤ i.toInt → i.toInt ≤ N.toInt → N.toInt - i.toInt ≤ m →
    ∃ (n : Nat) (r : Rec), X_release_l17 NF fuel ob p i = X_release_w17 NF (X_release_l17 NF n) r p N ∧ PI r ∧ (∀ k, gI r k = gI ob k) ∧ (∀ k y, k ≤ 6 → gA r k y = gA ob k y) ∧
      (∀ y w, In 64 y → In 4 w → cont r y w = if y.toInt / 16 = p.toInt ∧ i.toInt ≤ y.toInt % 16 ∧ y.toInt % 16 < N.toInt then 0 else cont ob y w) ∧
      (∀ k y, k = 7 ∨ k = 8 → In 64 y → gA r k y = if y.toInt / 16 = p.toInt ∧ i.toInt ≤ y.toInt % 16 ∧ y.toInt % 16 < N.toInt then 0 else gA ob k y) := by
  have fin : ∀ (n : Nat) (ob : Rec) (i : Int32), PI ob → i.toInt = N.toInt → ∃ (n' : Nat) (r : Rec), X_release_l17 NF (n + 1) ob p i = X_release_w17 NF (X_release_l17 NF n') r p N ∧ PI r ∧ (∀ k, gI r k = gI ob k) ∧ (∀ k y, k ≤ 6 → gA r k y = gA ob k y) ∧
      (∀ y w, In 64 y → In 4 w → cont r y w = if y.toInt / 16 = p.toInt ∧ i.toInt ≤ y.toInt % 16 ∧ y.toInt % 16 < N.toInt then 0 else cont ob y w) ∧
      (∀ k y, k = 7 ∨ k = 8 → In 64 y → gA r k y = if y.toInt / 16 = p.toInt ∧ i.toInt ≤ y.toInt % 16 ∧ y.toInt % 16 < N.toInt then 0 else gA ob k y) := by
    intro n ob i h e
    refine ⟨n, ob, ?_, h, fun _ => rfl, fun _ _ _ => rfl, fun y w _ _ => ?_, fun k y _ _ => ?_⟩
    · rw [show i = N from eq_i32.mpr e]; rfl
    · rw [if_neg (by omega)]
    · rw [if_neg (by omega)]
  intro m
  induction m with
  | zero =>
    intro fuel ob i hfu h h1 h0 h2 h3
    obtain ⟨n, rfl⟩ : ∃ n, fuel = n + 1 := ⟨fuel - 1, by omega⟩
    exact fin n ob i h (by omega)
  | succ m ih =>
    intro fuel ob i hfu h h1 h0 h2 h3
    obtain ⟨n, rfl⟩ : ∃ n, fuel = n + 1 := ⟨fuel - 1, by omega⟩
    by_cases hc : i.toInt < N.toInt
    · have ei := s1 (i := i) (by omega)
      have ex := px (p := p) (g := i) hp ⟨h0, by omega⟩
      have i1 : In 64 (p * 16 + i) := by rw [In, ex]; omega
      obtain ⟨q, e, d⟩ := dp_e h i1
      obtain ⟨n', r, a1, a2, a3, a4, a5, a6⟩ := ih n q (i + 1) (by omega) d.pi (by rw [d.si, h1]) (by omega) (by omega) (by omega)
      have yx : ∀ y : Int32, In 64 y → (y = p * 16 + i ↔ y.toInt / 16 = p.toInt ∧ y.toInt % 16 = i.toInt) := fun y hy => by
        rw [eq_i32, ex]; omega
      refine ⟨n', r, ?_, a2, fun k => (a3 k).trans (d.si k), fun k y hk => (a4 k y hk).trans (d.sa k y hk), fun y w hy hw => ?_, fun k y hk hy => ?_⟩
      · rw [← a1]
        show X_release_w17 NF _ ob p i = _
        unfold X_release_w17; rw [h1, if_pos (lt_i.mpr hc), e, Option.bind_some]
      · rw [a5 y w hy hw, d.ct y w hy hw]
        have := yx y hy
        by_cases c1 : y = p * 16 + i
        · rw [if_pos c1, if_pos (show y.toInt / 16 = p.toInt ∧ i.toInt ≤ y.toInt % 16 ∧ y.toInt % 16 < N.toInt by have := this.mp c1; omega)]; split <;> rfl
        · rw [if_neg c1]
          have c2 : ¬ (y.toInt / 16 = p.toInt ∧ y.toInt % 16 = i.toInt) := fun e => c1 (this.mpr e)
          by_cases c3 : y.toInt / 16 = p.toInt ∧ i.toInt ≤ y.toInt % 16 ∧ y.toInt % 16 < N.toInt
          · rw [if_pos c3, if_pos (by omega)]
          · rw [if_neg c3, if_neg (by omega)]
      · rw [a6 k y hk hy]
        have := yx y hy
        have dk : gA q k y = if y = p * 16 + i then 0 else gA ob k y := by
          rcases hk with rfl | rfl
          · exact d.s7 y
          · exact d.s8 y
        rw [dk]
        by_cases c1 : y = p * 16 + i
        · rw [if_pos c1, if_pos (show y.toInt / 16 = p.toInt ∧ i.toInt ≤ y.toInt % 16 ∧ y.toInt % 16 < N.toInt by have := this.mp c1; omega)]; split <;> rfl
        · rw [if_neg c1]
          have c2 : ¬ (y.toInt / 16 = p.toInt ∧ y.toInt % 16 = i.toInt) := fun e => c1 (this.mpr e)
          by_cases c3 : y.toInt / 16 = p.toInt ∧ i.toInt ≤ y.toInt % 16 ∧ y.toInt % 16 < N.toInt
          · rw [if_pos c3, if_pos (by omega)]
          · rw [if_neg c3, if_neg (by omega)]
    · exact fin n ob i h (by omega)
theorem rl_e (hNF : 70 < NF) {ob : Rec} (h : PI ob) {p : Int32} (hp : In (gI ob 0).toInt p) :
    ∃ o1 o2 o3, X_release NF ob p = some (0, sI o3 4 0) ∧ DR p ob o1 ∧ sA (sA (sA (sA (sA (sA o1 1 p 0) 2 p 0) 3 p 0) 4 p 0) 5 p 0) 0 p 0 = o2 ∧ X_loadControl NF o2 p = some o3 ∧ LC p o2 o3 ∧ PI (sI o3 4 0) ∧ gA o3 0 p = 0 ∧
      ∀ y w, In 64 y → In 4 w → cont (sI o3 4 0) y w = if y.toInt / 16 = p.toInt then 0 else cont ob y w := by
  have hP := h.hP
  have hN := h.hN
  have hp4 : In 4 p := ⟨hp.1, by omega⟩
  obtain ⟨n, o1, a1, a2, a3, a4, a5, a6⟩ := rl_l NF (gI ob 1) hN hp4 16 NF ob 0 (by omega) h rfl (by decide) (by show (0 : Int) ≤ _; omega) (by show _ - (0 : Int) ≤ _; omega)
  have z0 : (0 : Int32).toInt = 0 := rfl
  have d : DR p ob o1 := by
    refine ⟨a2, ?_, a3, a4, ?_, ?_, ?_⟩
    · intro y w hy hw
      rw [a5 y w hy hw, z0]
      by_cases c : y.toInt / 16 = p.toInt
      · rw [if_pos c]
        by_cases c2 : y.toInt % 16 < (gI ob 1).toInt
        · rw [if_pos ⟨c, by omega, c2⟩]
        · rw [if_neg (fun e => c2 e.2.2)]; exact ct_nv h hy (fun v => c2 v.2.2)
      · rw [if_neg c, if_neg (fun e => c e.1)]
    · intro y hy c2
      rw [a6 7 y (by omega) hy, z0]
      by_cases c : y.toInt / 16 = p.toInt
      · rw [if_pos c, if_pos ⟨c, by omega, c2⟩]
      · rw [if_neg c, if_neg (fun e => c e.1)]
    · intro y hy c2
      rw [a6 8 y (by omega) hy, z0]
      by_cases c : y.toInt / 16 = p.toInt
      · rw [if_pos c, if_pos ⟨c, by omega, c2⟩]
      · rw [if_neg c, if_neg (fun e => c e.1)]
    · intro k y hk hy c2
      rw [a6 k y hk hy, if_neg (fun e => c2 e.2.2)]
  unfold X_release; rw [vpy hp, Option.bind_some, if_neg (by decide), a1]
  unfold X_release_w17
  rw [a3 1, if_neg (by rw [lt_i]; omega), ckn (m := 4) rfl hp4, ckn (m := 4) rfl hp4, ckn (m := 4) rfl hp4, ckn (m := 4) rfl hp4, ckn (m := 4) rfl hp4, ckn (m := 4) rfl hp4]
  obtain ⟨o3, e3, lc⟩ := lc_e' NF hNF (p := p) (ob := sA (sA (sA (sA (sA (sA o1 1 p 0) 2 p 0) 3 p 0) 4 p 0) 5 p 0) 0 p 0) (by show 1 ≤ (gI o1 0).toInt ∧ (gI o1 0).toInt ≤ 4; rw [a3]; exact hP)
  rw [e3, Option.bind_some]
  generalize hs : sA (sA (sA (sA (sA (sA o1 1 p 0) 2 p 0) 3 p 0) 4 p 0) 5 p 0) 0 p 0 = o2 at *
  have sA' : ∀ k x, 6 ≤ k → gA o2 k x = gA o1 k x := fun k x hk => by
    rw [← hs]; simp [gA_sA, show ¬ k = 0 by omega, show ¬ k = 1 by omega, show ¬ k = 2 by omega, show ¬ k = 3 by omega, show ¬ k = 4 by omega, show ¬ k = 5 by omega]
  have sI' : ∀ k, gI o2 k = gI o1 k := fun k => by rw [← hs]; rfl
  have c3 : ∀ k x, k = 9 ∨ k = 10 ∨ k = 12 ∨ 14 ≤ k → gA (sI o3 4 0) k x = gA o1 k x := fun k x hk => (lc.sa k x (by omega)).trans (sA' k x (by omega))
  refine ⟨o1, o2, o3, rfl, d, hs, e3, lc, ?_, ?_, ?_⟩
  · exact PI_c a2 (fun k hk => by rw [gI_sI, if_neg (by omega), lc.si k (by omega) (by omega), sI']) c3
  · exact lc.kp (by rw [← hs]; simp [gA_sA])
  · intro y w hy hw
    rw [cont_c c3]; exact d.ct y w hy hw
end pgd
theorem i247 (NF : Nat) : ∀ (m fuel : Nat) (ob : Rec) (i : Int32), m < fuel → 0 ≤ i.toInt → i.toInt ≤ 32 → 32 - i.toInt ≤ m → ∃ r, X_init_l247 NF fuel ob i = some r ∧ r.1 = ob.1 ∧ (∀ (k : Nat) (x : Int32), ¬ k = 12 → gA r k x = gA ob k x) ∧ (∀ x : Int32, i.toInt ≤ x.toInt → x.toInt < 32 → gA r 12 x = -1) ∧ (∀ x : Int32, x.toInt < i.toInt → gA r 12 x = gA ob 12 x) := by
  intro m
  induction m with
  | zero =>
    intro fuel ob i hf h0 h1 h2
    obtain ⟨n, rfl⟩ : ∃ n, fuel = n + 1 := ⟨fuel - 1, by omega⟩
    exact ⟨ob, by show X_init_w247 NF _ ob i = _; unfold X_init_w247; rw [if_neg (nltn (m := 32) rfl (by omega))], rfl, fun _ _ _ => rfl, fun x a b => absurd b (by omega), fun _ _ => rfl⟩
  | succ m ih =>
    intro fuel ob i hf h0 h1 h2
    obtain ⟨n, rfl⟩ : ∃ n, fuel = n + 1 := ⟨fuel - 1, by omega⟩
    by_cases hc : i.toInt < 32
    · have ei := s1 (i := i) (by omega)
      obtain ⟨r, h, r1, r2, r3, r4⟩ := ih n (sA ob 12 i (-1)) (i + 1) (by omega) (by omega) (by omega) (by omega)
      refine ⟨r, ?_, r1, ?_, ?_, ?_⟩
      · rw [← h]
        show X_init_w247 NF _ ob i = _
        unfold X_init_w247; rw [if_pos (ltn (m := 32) rfl hc), ckn (m := 32) rfl ⟨h0, hc⟩]
      · intro k x hk; rw [r2 k x hk, gA_sA, if_neg (fun h => hk h.1)]
      · intro x a b
        by_cases c : x = i
        · rw [r4 x (by rw [c]; omega), c, gA_sA, if_pos ⟨rfl, rfl⟩]
        · have : x.toInt ≠ i.toInt := fun h => c (eq_i32.mpr h)
          exact r3 x (by omega) b
      · intro x a
        rw [r4 x (by omega), gA_sA, if_neg (fun h => by rw [h.2] at a; omega)]
    · exact ⟨ob, by show X_init_w247 NF _ ob i = _; unfold X_init_w247; rw [if_neg (nltn (m := 32) rfl hc)], rfl, fun _ _ _ => rfl, fun x a b => absurd b (by omega), fun _ _ => rfl⟩
theorem i215 (NF : Nat) (hNF : 70 < NF) : ∀ (m fuel : Nat) (ob : Rec) (i : Int32), m < fuel → 0 ≤ i.toInt → i.toInt ≤ 64 → 64 - i.toInt ≤ m → ∃ r, X_init_l215 NF fuel ob i = some r ∧ r.1 = ob.1 ∧ (∀ (k : Nat) (x : Int32), ¬ k = 9 → ¬ k = 10 → ¬ k = 12 → gA r k x = gA ob k x) ∧ (∀ x : Int32, i.toInt ≤ x.toInt → x.toInt < 64 → gA r 9 x = -1 ∧ gA r 10 x = -1) ∧ (∀ x : Int32, x.toInt < i.toInt → gA r 9 x = gA ob 9 x ∧ gA r 10 x = gA ob 10 x) ∧ (∀ x, In 32 x → gA r 12 x = -1) := by
  have base : ∀ (n : Nat) (ob : Rec) (i : Int32), ¬ i.toInt < 64 → ∃ r, X_init_l215 NF (n + 1) ob i = some r ∧ r.1 = ob.1 ∧ (∀ (k : Nat) (x : Int32), ¬ k = 9 → ¬ k = 10 → ¬ k = 12 → gA r k x = gA ob k x) ∧ (∀ x : Int32, i.toInt ≤ x.toInt → x.toInt < 64 → gA r 9 x = -1 ∧ gA r 10 x = -1) ∧ (∀ x : Int32, x.toInt < i.toInt → gA r 9 x = gA ob 9 x ∧ gA r 10 x = gA ob 10 x) ∧ (∀ x, In 32 x → gA r 12 x = -1) := by
    intro n ob i hi
    obtain ⟨r, h, r1, r2, r3, -⟩ := i247 NF 32 NF ob 0 (by omega) (by decide) (by decide) (by decide)
    refine ⟨r, ?_, r1, fun k x _ _ hk => r2 k x hk, fun x a b => absurd b (by omega), fun x _ => ⟨r2 9 x (by decide), r2 10 x (by decide)⟩, fun x hx => r3 x hx.1 hx.2⟩
    show X_init_w215 NF _ ob i = _
    unfold X_init_w215; rw [if_neg (nltn (m := 64) rfl hi)]; exact h
  intro m
  induction m with
  | zero =>
    intro fuel ob i hf h0 h1 h2
    obtain ⟨n, rfl⟩ : ∃ n, fuel = n + 1 := ⟨fuel - 1, by omega⟩
    exact base n ob i (by omega)
  | succ m ih =>
    intro fuel ob i hf h0 h1 h2
    obtain ⟨n, rfl⟩ : ∃ n, fuel = n + 1 := ⟨fuel - 1, by omega⟩
    by_cases hc : i.toInt < 64
    · have ei := s1 (i := i) (by omega)
      obtain ⟨r, h, r1, r2, r3, r4, r5⟩ := ih n (sA (sA ob 9 i (-1)) 10 i (-1)) (i + 1) (by omega) (by omega) (by omega) (by omega)
      refine ⟨r, ?_, r1, ?_, ?_, ?_, r5⟩
      · rw [← h]
        show X_init_w215 NF _ ob i = _
        unfold X_init_w215; rw [if_pos (ltn (m := 64) rfl hc), ckn (m := 64) rfl ⟨h0, hc⟩, ckn (m := 64) rfl ⟨h0, hc⟩]
      · intro k x a b c; rw [r2 k x a b c, gA_sA, if_neg (fun h => b h.1), gA_sA, if_neg (fun h => a h.1)]
      · intro x a b
        by_cases c : x = i
        · have := r4 x (by rw [c]; omega)
          rw [this.1, this.2, c]
          exact ⟨by rw [gA_sA, if_neg (fun h => absurd h.1 (by decide)), gA_sA, if_pos ⟨rfl, rfl⟩], by rw [gA_sA, if_pos ⟨rfl, rfl⟩]⟩
        · have : x.toInt ≠ i.toInt := fun h => c (eq_i32.mpr h)
          exact r3 x (by omega) b
      · intro x a
        have := r4 x (by omega)
        have ne : ¬ x = i := fun h => by rw [h] at a; omega
        rw [this.1, this.2]
        exact ⟨by rw [gA_sA, if_neg (fun h => ne h.2), gA_sA, if_neg (fun h => ne h.2)], by rw [gA_sA, if_neg (fun h => ne h.2), gA_sA, if_neg (fun h => ne h.2)]⟩
    · exact base n ob i hc
theorem cl_e {ob : Rec} {v lo hi : Int32} (h : lo.toInt ≤ v.toInt ∧ v.toInt ≤ hi.toInt) : X_clamp ob v lo hi = some v := by
  unfold X_clamp; rw [if_neg (by rw [lt_i]; omega), if_neg (by rw [lt_i]; omega)]
theorem ini (NF : Nat) (hNF : 70 < NF) {P N F T : Int32} (hP : 1 ≤ P.toInt ∧ P.toInt ≤ 4) (hN : 4 ≤ N.toInt ∧ N.toInt ≤ 16) (hF : 4 ≤ F.toInt ∧ F.toInt ≤ 32) (hT : 1 ≤ T.toInt ∧ T.toInt ≤ 16) :
    ∃ Q, X_init NF P N F T = some Q ∧ (gI Q 0 = P ∧ gI Q 1 = N ∧ gI Q 2 = F ∧ gI Q 3 = T ∧ (∀ k, 4 ≤ k → gI Q k = 0)) ∧ (∀ (k : Nat) (x : Int32), k ≤ 8 → gA Q k x = 0) ∧ PI Q ∧ (∀ y w, In 64 y → cont Q y w = 0) := by
  obtain ⟨r, h, r1, r2, r3, -, r5⟩ := i215 NF hNF 64 NF (sI (sI (sI (sI (sI (sI (sI (sI zrec 0 P) 1 N) 2 F) 3 T) 4 0) 5 0) 6 0) 7 0) 0 (by omega) (by decide) (by decide) (by decide)
  have rI : ∀ k, gI r k = gI (sI (sI (sI (sI (sI (sI (sI (sI zrec 0 P) 1 N) 2 F) 3 T) 4 0) 5 0) 6 0) 7 0) k := fun k => by unfold gI; rw [r1]
  have g9 : ∀ x, In 64 x → gA r 9 x = -1 := fun x hx => (r3 x hx.1 hx.2).1
  have g10 : ∀ x, In 64 x → gA r 10 x = -1 := fun x hx => (r3 x hx.1 hx.2).2
  have m1 : ¬ (0 : Int) ≤ (-1 : Int32).toInt := by decide
  have i0 : gI r 0 = P := rI 0
  have i1 : gI r 1 = N := rI 1
  have i2 : gI r 2 = F := rI 2
  have i3 : gI r 3 = T := rI 3
  have i4 : ∀ k, 4 ≤ k → gI r k = 0 := fun k hk => by
    rw [rI]; simp [gI_sI, gI_z, show ¬ k = 0 by omega, show ¬ k = 1 by omega, show ¬ k = 2 by omega, show ¬ k = 3 by omega]
  refine ⟨r, ?_, ⟨i0, i1, i2, i3, i4⟩, fun k x hk => (r2 k x (by omega) (by omega) (by omega)).trans rfl, ⟨by rw [i0]; exact hP, by rw [i1]; exact hN, by rw [i2]; exact hF, by rw [i2, i4 7 (by omega)]; exact ⟨by decide, by show (0 : Int) < _; omega⟩, ?_, ?_, ?_, ?_, ?_, ?_⟩, ?_⟩
  · unfold X_init
    rw [cl_e (lo := 1) (hi := 4) hP, Option.bind_some, cl_e (lo := 4) (hi := 16) hN, Option.bind_some, cl_e (lo := 4) (hi := 32) hF, Option.bind_some, cl_e (lo := 1) (hi := 16) hT, Option.bind_some]
    exact h
  · intro f hf h0; rw [i2] at hf; rw [r5 f ⟨hf.1, by omega⟩] at h0; exact absurd h0 m1
  · intro x hx h0; rw [g9 x hx] at h0; exact absurd h0 m1
  · intro x hx h0; rw [g10 x hx] at h0; exact absurd h0 m1
  · intro x y hx _ h0; rw [g10 x hx] at h0; exact absurd h0 m1
  · apply cN_eq
    intro i hi
    rw [g10 (n32 i) ⟨by rw [nt i (by omega)]; omega, by rw [nt i (by omega)]; omega⟩, r2 16 _ (by decide) (by decide) (by decide)]
    rfl
  · intro f hf h0; rw [i2] at hf; rw [r5 f ⟨hf.1, by omega⟩] at h0; exact absurd h0 m1
  · intro y w hy
    show ct _ _ _ _ _ _ = _
    unfold ct; rw [g9 y hy, g10 y hy, if_pos (by decide), if_pos (by decide)]
def sN (f : Nat → Nat) : Nat → Nat
  | 0 => 0
  | n + 1 => sN f n + f n
theorem sN_eq {f g : Nat → Nat} : ∀ n, (∀ i, i < n → f i = g i) → sN f n = sN g n
  | 0, _ => rfl
  | n + 1, h => by
    show sN f n + f n = sN g n + g n
    rw [sN_eq n (fun i hi => h i (by omega)), h n (by omega)]
theorem sN_set {f g : Nat → Nat} {j : Nat} : ∀ n, j < n → (∀ i, i < n → ¬ i = j → g i = f i) → sN g n + f j = sN f n + g j
  | 0, h, _ => absurd h (by omega)
  | n + 1, h, e => by
    show sN g n + g n + f j = sN f n + f n + g j
    by_cases c : j = n
    · subst c
      rw [sN_eq j (fun i hi => e i (by omega) (by omega))]; omega
    · have := sN_set n (by omega) (fun i hi => e i (by omega))
      rw [e n (by omega) (fun h => c h.symm)]; omega
theorem cN_b (f : Nat → Bool) : ∀ n, cN f n ≤ n
  | 0 => Nat.le_refl 0
  | n + 1 => by
    have := cN_b f n
    show cN f n + _ ≤ n + 1
    split <;> omega
theorem cN_pos {f : Nat → Bool} {j : Nat} (n : Nat) (hj : j < n) (fj : f j = true) : 1 ≤ cN f n := by
  have z : ∀ n, cN (fun _ => false) n = 0 := fun n => by induction n with
    | zero => rfl
    | succ n ih => show cN (fun _ => false) n + _ = 0; rw [ih]; rfl
  have := cN_lt (f := fun _ => false) (g := f) n hj rfl fj (fun _ _ e => by simp at e)
  rw [z] at this; exact this
theorem w_add {c c' : Nat → Int32} {w w' : Int32} {L : Int} {g : Nat} (hg : g < 16) (hc : ∀ i, i < 16 → 0 ≤ (c i).toInt ∧ (c i).toInt < 1000) (hc' : ∀ i, i < 16 → c' i = if i = g then c i + 1 else c i)
    (hw : w.toInt = (cN (fun i => decide (0 < (c i).toInt)) 16 : Nat)) (hL : L = w.toInt + (sN (fun i => (c i).toInt.toNat - 1) 16 : Nat)) (hw' : w' = if c g = 0 then w + 1 else w) :
    w'.toInt = (cN (fun i => decide (0 < (c' i).toInt)) 16 : Nat) ∧ L + 1 = w'.toInt + (sN (fun i => (c' i).toInt.toNat - 1) 16 : Nat) := by
  have e1 : (c' g).toInt = (c g).toInt + 1 := by rw [hc' g hg, if_pos rfl, s1 (by have := hc g hg; omega)]
  have b := cN_b (fun i => decide (0 < (c i).toInt)) 16
  have hcg := hc g hg
  have ss := sN_set (f := fun i => (c i).toInt.toNat - 1) (g := fun i => (c' i).toInt.toNat - 1) (j := g) 16 hg (fun i hi n => by
    show (c' i).toInt.toNat - 1 = _
    rw [hc' i hi, if_neg n])
  simp only [e1] at ss
  by_cases z : c g = 0
  · have z' : (c g).toInt = 0 := by rw [z]; rfl
    rw [if_pos z] at hw'
    have ew : w'.toInt = w.toInt + 1 := by rw [hw', s1 (by omega)]
    have cc := cN_set (f := fun i => decide (0 < (c i).toInt)) (g := fun i => decide (0 < (c' i).toInt)) (j := g) (by simp [z']) (by simp; omega) 16 hg (fun i hi n => by
      show decide (0 < (c' i).toInt) = _
      rw [hc' i hi, if_neg n])
    rw [z'] at ss
    constructor
    · rw [ew, cc, hw]; omega
    · rw [ew, hL]; omega
  · have z' : ¬ (c g).toInt = 0 := fun e => z (eq_i32.mpr e)
    rw [if_neg z] at hw'
    rw [hw']
    have cc := cN_eq (f := fun i => decide (0 < (c i).toInt)) (g := fun i => decide (0 < (c' i).toInt)) 16 (fun i hi => by
      by_cases n : i = g
      · subst n
        have x1 : 0 < (c i).toInt := by omega
        have x2 : 0 < (c' i).toInt := by omega
        rw [decide_eq_true x1, decide_eq_true x2]
      · show _ = decide (0 < (c' i).toInt)
        rw [hc' i hi, if_neg n])
    rw [← cc]
    exact ⟨hw, by rw [hL]; omega⟩
theorem w_del {c c' : Nat → Int32} {w w' : Int32} {L : Int} {g : Nat} (hg : g < 16) (h1 : 1 ≤ (c g).toInt ∧ (c g).toInt < 1000) (hc' : ∀ i, i < 16 → c' i = if i = g then c i - 1 else c i)
    (hw : w.toInt = (cN (fun i => decide (0 < (c i).toInt)) 16 : Nat)) (hL : L = w.toInt + (sN (fun i => (c i).toInt.toNat - 1) 16 : Nat)) (hw' : w' = if c' g = 0 then w - 1 else w) :
    w'.toInt = (cN (fun i => decide (0 < (c' i).toInt)) 16 : Nat) ∧ L - 1 = w'.toInt + (sN (fun i => (c' i).toInt.toNat - 1) 16 : Nat) := by
  have e1 : (c' g).toInt = (c g).toInt - 1 := by
    rw [hc' g hg, if_pos rfl, sb (by show -2147483648 ≤ (c g).toInt - 1 ∧ (c g).toInt - 1 < 2147483648; omega)]; rfl
  have b := cN_b (fun i => decide (0 < (c i).toInt)) 16
  have ss := sN_set (f := fun i => (c i).toInt.toNat - 1) (g := fun i => (c' i).toInt.toNat - 1) (j := g) 16 hg (fun i hi n => by
    show (c' i).toInt.toNat - 1 = _
    rw [hc' i hi, if_neg n])
  simp only [e1] at ss
  by_cases z : c' g = 0
  · have z' : (c' g).toInt = 0 := by rw [z]; rfl
    have z2 : (c g).toInt = 1 := by omega
    rw [if_pos z] at hw'
    have cc := cN_set (f := fun i => decide (0 < (c' i).toInt)) (g := fun i => decide (0 < (c i).toInt)) (j := g) (by simp [z']) (by simp; omega) 16 hg (fun i hi n => by
      show _ = decide (0 < (c' i).toInt)
      rw [hc' i hi, if_neg n])
    have ew : w'.toInt = w.toInt - 1 := by
      rw [hw', sb (by show -2147483648 ≤ w.toInt - 1 ∧ w.toInt - 1 < 2147483648; omega)]; rfl
    rw [z2] at ss
    constructor
    · rw [ew, hw, cc]; omega
    · rw [ew, hL]; omega
  · have z' : ¬ (c' g).toInt = 0 := fun e => z (eq_i32.mpr e)
    rw [if_neg z] at hw'
    rw [hw']
    have cc := cN_eq (f := fun i => decide (0 < (c i).toInt)) (g := fun i => decide (0 < (c' i).toInt)) 16 (fun i hi => by
      by_cases n : i = g
      · subst n
        have x1 : 0 < (c i).toInt := by omega
        have x2 : 0 < (c' i).toInt := by omega
        rw [decide_eq_true x1, decide_eq_true x2]
      · show _ = decide (0 < (c' i).toInt)
        rw [hc' i hi, if_neg n])
    rw [← cc]
    exact ⟨hw, by rw [hL]; omega⟩
theorem ni {i n : Nat} (h : i < n) (hn : n ≤ 1000) : In (n : Int) (n32 i) := by
  rw [In, nt i (by omega)]; omega
theorem n32_inj {i j : Nat} (hi : i < 1000) (hj : j < 1000) (e : n32 i = n32 j) : i = j := by
  have := congrArg Int32.toInt e
  rw [nt i (by omega), nt j (by omega)] at this; omega
theorem pin {p g : Int32} {i : Nat} (hp : In 4 p) (hg : In 16 g) (hi : i < 16) : p * 16 + n32 i = p * 16 + g ↔ i = g.toInt.toNat := by
  constructor
  · intro e
    have := (px_inj hp hp (ni (n := 16) hi (by omega)) hg e).2
    rw [← this, nt i (by omega)]; omega
  · intro e; rw [e, n32_t g hg.1]
abbrev WI (ob : Rec) (p : Int32) : Prop := (In (gI ob 3).toInt (gA ob 3 p)) ∧ (0 ≤ (gA ob 2 p).toInt ∧ (gA ob 2 p).toInt ≤ (gI ob 3).toInt) ∧ ((gA ob 2 p).toInt < (gI ob 3).toInt → gA ob 3 p = gA ob 2 p) ∧ (∀ j, In 16 j → In 16 (gA ob 6 (p * 16 + j))) ∧ (∀ g, In 16 g → (gA ob 7 (p * 16 + g)).toInt = (cN (fun j => decide (gA ob 6 (p * 16 + n32 j) = g)) (gA ob 2 p).toInt.toNat : Nat)) ∧ ((gA ob 4 p).toInt = (cN (fun g => decide (0 < (gA ob 7 (p * 16 + n32 g)).toInt)) 16 : Nat)) ∧ ((gA ob 2 p).toInt = (gA ob 4 p).toInt + (sN (fun g => (gA ob 7 (p * 16 + n32 g)).toInt.toNat - 1) 16 : Nat)) ∧ ((gA ob 5 p).toInt = (cN (fun g => decide (¬ gA ob 8 (p * 16 + n32 g) = 0)) 16 : Nat)) ∧ (∀ g, In 16 g → 0 < (gA ob 7 (p * 16 + g)).toInt → ¬ gA ob 8 (p * 16 + g) = 0) ∧ (0 ≤ (gA ob 1 p).toInt ∧ (gA ob 2 p).toInt ≤ (gA ob 1 p).toInt ∧ (gA ob 5 p).toInt ≤ (gA ob 1 p).toInt)
theorem WI.hh {ob : Rec} {p : Int32} (h : WI ob p) : In (gI ob 3).toInt (gA ob 3 p) := h.1
theorem WI.hl {ob : Rec} {p : Int32} (h : WI ob p) : 0 ≤ (gA ob 2 p).toInt ∧ (gA ob 2 p).toInt ≤ (gI ob 3).toInt := h.2.1
theorem WI.lh {ob : Rec} {p : Int32} (h : WI ob p) : (gA ob 2 p).toInt < (gI ob 3).toInt → gA ob 3 p = gA ob 2 p := h.2.2.1
theorem WI.rg {ob : Rec} {p : Int32} (h : WI ob p) : ∀ j, In 16 j → In 16 (gA ob 6 (p * 16 + j)) := h.2.2.2.1
theorem WI.cn {ob : Rec} {p : Int32} (h : WI ob p) : ∀ g, In 16 g → (gA ob 7 (p * 16 + g)).toInt = (cN (fun j => decide (gA ob 6 (p * 16 + n32 j) = g)) (gA ob 2 p).toInt.toNat : Nat) := h.2.2.2.2.1
theorem WI.ws {ob : Rec} {p : Int32} (h : WI ob p) : (gA ob 4 p).toInt = (cN (fun g => decide (0 < (gA ob 7 (p * 16 + n32 g)).toInt)) 16 : Nat) := h.2.2.2.2.2.1
theorem WI.sl {ob : Rec} {p : Int32} (h : WI ob p) : (gA ob 2 p).toInt = (gA ob 4 p).toInt + (sN (fun g => (gA ob 7 (p * 16 + n32 g)).toInt.toNat - 1) 16 : Nat) := h.2.2.2.2.2.2.1
theorem WI.tc {ob : Rec} {p : Int32} (h : WI ob p) : (gA ob 5 p).toInt = (cN (fun g => decide (¬ gA ob 8 (p * 16 + n32 g) = 0)) 16 : Nat) := h.2.2.2.2.2.2.2.1
theorem WI.wt {ob : Rec} {p : Int32} (h : WI ob p) : ∀ g, In 16 g → 0 < (gA ob 7 (p * 16 + g)).toInt → ¬ gA ob 8 (p * 16 + g) = 0 := h.2.2.2.2.2.2.2.2.1
theorem WI.vt {ob : Rec} {p : Int32} (h : WI ob p) : 0 ≤ (gA ob 1 p).toInt ∧ (gA ob 2 p).toInt ≤ (gA ob 1 p).toInt ∧ (gA ob 5 p).toInt ≤ (gA ob 1 p).toInt := h.2.2.2.2.2.2.2.2.2
theorem WI_c {ob r : Rec} {p : Int32} (h : WI ob p) (hT : (gI ob 3).toInt ≤ 16) (h3 : gI r 3 = gI ob 3) (hA : ∀ k, 1 ≤ k → k ≤ 5 → gA r k p = gA ob k p) (hB : ∀ k j, 6 ≤ k → k ≤ 8 → In 16 j → gA r k (p * 16 + j) = gA ob k (p * 16 + j)) : WI r p := by
  obtain ⟨a1, a2, a3, a4, a5, a6, a7, a8, a9, a10⟩ := h
  have n16 : ∀ i, i < 16 → In 16 (n32 i) := fun i hi => ni (n := 16) hi (by omega)
  refine ⟨?_, ?_, ?_, ?_, ?_, ?_, ?_, ?_, ?_, ?_⟩
  · rw [h3, hA 3 (by omega) (by omega)]; exact a1
  · rw [h3, hA 2 (by omega) (by omega)]; exact a2
  · rw [h3, hA 2 (by omega) (by omega), hA 3 (by omega) (by omega)]; exact a3
  · intro j hj; rw [hB 6 j (by omega) (by omega) hj]; exact a4 j hj
  · intro g hg; rw [hB 7 g (by omega) (by omega) hg, hA 2 (by omega) (by omega), a5 g hg]
    congr 1
    apply cN_eq
    intro i hi
    rw [hB 6 (n32 i) (by omega) (by omega) (n16 i (by omega))]
  · rw [hA 4 (by omega) (by omega), a6]
    congr 1
    apply cN_eq
    intro i hi
    rw [hB 7 (n32 i) (by omega) (by omega) (n16 i hi)]
  · rw [hA 4 (by omega) (by omega), hA 2 (by omega) (by omega), a7]
    congr 2
    apply sN_eq
    intro i hi
    rw [hB 7 (n32 i) (by omega) (by omega) (n16 i hi)]
  · rw [hA 5 (by omega) (by omega), a8]
    congr 1
    apply cN_eq
    intro i hi
    rw [hB 8 (n32 i) (by omega) (by omega) (n16 i hi)]
  · intro g hg; rw [hB 7 g (by omega) (by omega) hg, hB 8 g (by omega) (by omega) hg]; exact a9 g hg
  · rw [hA 1 (by omega) (by omega), hA 2 (by omega) (by omega), hA 5 (by omega) (by omega)]; exact a10
/-- the window after a reference -/
theorem WI_rr {ob r : Rec} {p g w1 : Int32} {c1 : Int32 → Int32} (hT : 1 ≤ (gI ob 3).toInt ∧ (gI ob 3).toInt ≤ 16) (hp : In 4 p) (hg : In 16 g) (h : WI ob p) (hv : (gA ob 1 p).toInt < 1000) (rr : RR p g ob r c1 w1) : WI r p ∧ 0 < (gA r 7 (p * 16 + g)).toInt := by
  obtain ⟨a1, a2, a3, a4, a5, a6, a7, a8, a9, a10⟩ := h
  have n16 : ∀ i, i < 16 → In 16 (n32 i) := fun i hi => ni (n := 16) hi (by omega)
  have cb : ∀ y, In 16 y → 0 ≤ (gA ob 7 (p * 16 + y)).toInt ∧ (gA ob 7 (p * 16 + y)).toInt ≤ 16 := fun y hy => by
    rw [a5 y hy]
    have := cN_b (fun j => decide (gA ob 6 (p * 16 + n32 j) = y)) (gA ob 2 p).toInt.toNat
    omega
  have hg16 : g.toInt.toNat < 16 := by omega
  -- the state between
  have mid : (∀ i, i < 16 → 0 ≤ (c1 (p * 16 + n32 i)).toInt ∧ (c1 (p * 16 + n32 i)).toInt ≤ (gA ob 7 (p * 16 + n32 i)).toInt) ∧
      w1.toInt = (cN (fun i => decide (0 < (c1 (p * 16 + n32 i)).toInt)) 16 : Nat) ∧ (gA r 2 p).toInt - 1 = w1.toInt + (sN (fun i => (c1 (p * 16 + n32 i)).toInt.toNat - 1) 16 : Nat) ∧
      (0 ≤ (gA r 2 p).toInt ∧ (gA r 2 p).toInt ≤ (gI ob 3).toInt) ∧ (gA r 2 p).toInt ≤ (gA ob 2 p).toInt + 1 ∧ ((gA r 2 p).toInt < (gI ob 3).toInt → gA r 3 p = gA r 2 p) ∧
      (∀ y, In 16 y → (cN (fun j => decide (gA r 6 (p * 16 + n32 j) = y)) (gA r 2 p).toInt.toNat : Int) = (c1 (p * 16 + y)).toInt + if y = g then 1 else 0) := by
    by_cases c : gA ob 2 p < gI ob 3
    · have c' := lt_i.mp c
      obtain ⟨e1, e2⟩ := rr.c1l c
      have ln := rr.ln
      rw [if_pos c] at ln
      have el : (gA r 2 p).toInt = (gA ob 2 p).toInt + 1 := by rw [ln, s1 (by omega)]
      have hd := a3 c'
      rw [e1, e2]
      refine ⟨fun i hi => ⟨(cb _ (n16 i hi)).1, Int.le_refl _⟩, a6, by rw [el]; omega, by omega, by omega, ?_, ?_⟩
      · intro lt
        rw [rr.hd, ln, hd]
        apply eq_i32.mpr
        have e := s1 (i := gA ob 2 p) (by omega)
        rw [md (by omega) (by omega), Int.emod_eq_of_lt (by omega) (by omega)]
      · intro y hy
        have en : (gA r 2 p).toInt.toNat = (gA ob 2 p).toInt.toNat + 1 := by omega
        rw [en]
        show ((cN (fun j => decide (gA r 6 (p * 16 + n32 j) = y)) (gA ob 2 p).toInt.toNat + (if decide (gA r 6 (p * 16 + n32 (gA ob 2 p).toInt.toNat) = y) = true then 1 else 0) : Nat) : Int) = _
        have q1 : cN (fun j => decide (gA r 6 (p * 16 + n32 j) = y)) (gA ob 2 p).toInt.toNat = cN (fun j => decide (gA ob 6 (p * 16 + n32 j) = y)) (gA ob 2 p).toInt.toNat := by
          apply cN_eq
          intro i hi
          rw [rr.rg, if_neg]
          intro e
          rw [hd, pin hp ⟨a2.1, by omega⟩ (by omega)] at e; omega
        have q2 : gA r 6 (p * 16 + n32 (gA ob 2 p).toInt.toNat) = g := by
          rw [rr.rg, n32_t _ a2.1, hd, if_pos rfl]
        rw [q1, q2, a5 y hy]
        by_cases d : y = g
        · rw [if_pos d, if_pos (by simp [d])]; omega
        · rw [if_neg d, if_neg (by simp only [decide_eq_true_eq]; exact fun e => d e.symm)]; omega
    · have c' : ¬ (gA ob 2 p).toInt < (gI ob 3).toInt := fun e => c (lt_i.mpr e)
      obtain ⟨e1, e2⟩ := rr.c1g c
      have ln := rr.ln
      rw [if_neg c] at ln
      have hh16 : In 16 (gA ob 3 p) := ⟨a1.1, by omega⟩
      have ho := a4 _ hh16
      generalize hold : gA ob 6 (p * 16 + gA ob 3 p) = o at *
      have on : o.toInt.toNat < 16 := by omega
      have hhn : (gA ob 3 p).toInt.toNat < (gA ob 2 p).toInt.toNat := by omega
      have c1o : 1 ≤ (gA ob 7 (p * 16 + o)).toInt := by
        rw [a5 o ho]
        have := cN_pos (f := fun j => decide (gA ob 6 (p * 16 + n32 j) = o)) (j := (gA ob 3 p).toInt.toNat) _ hhn (by simp only [decide_eq_true_eq]; rw [n32_t _ a1.1, hold])
        omega
      have e1' : ∀ i, i < 16 → c1 (p * 16 + n32 i) = if i = o.toInt.toNat then gA ob 7 (p * 16 + n32 i) - 1 else gA ob 7 (p * 16 + n32 i) := fun i hi => by
        rw [e1]
        by_cases d : i = o.toInt.toNat
        · rw [if_pos d, if_pos ((pin hp ho hi).mpr d)]
        · rw [if_neg d, if_neg (fun e => d ((pin hp ho hi).mp e))]
      have ot : n32 o.toInt.toNat = o := n32_t o ho.1
      have del := w_del (c := fun i => gA ob 7 (p * 16 + n32 i)) (c' := fun i => c1 (p * 16 + n32 i)) (w := gA ob 4 p) (w' := w1) (L := (gA ob 2 p).toInt) (g := o.toInt.toNat) on (by simp only [ot]; exact ⟨c1o, by have := cb o ho; omega⟩) e1' a6 a7 (by simp only [ot]; exact e2)
      have c1t : ∀ y, In 16 y → (c1 (p * 16 + y)).toInt = (gA ob 7 (p * 16 + y)).toInt - if y = o then 1 else 0 := by
        intro y hy
        rw [e1]
        by_cases d : y = o
        · rw [if_pos (by rw [d]), if_pos d, sb (by rw [d]; have := cb o ho; show -2147483648 ≤ (gA ob 7 (p * 16 + o)).toInt - 1 ∧ (gA ob 7 (p * 16 + o)).toInt - 1 < 2147483648; omega)]; rfl
        · rw [if_neg (fun e => d (px_inj hp hp hy ho e).2), if_neg d]; omega
      refine ⟨fun i hi => ?_, del.1, by rw [ln]; exact del.2, by rw [ln]; exact a2, by rw [ln]; omega, fun lt => absurd lt (by rw [ln]; omega), ?_⟩
      · have := cb _ (n16 i hi)
        rw [c1t _ (n16 i hi)]
        by_cases d : n32 i = o
        · rw [if_pos d, d]; have := cb o ho; omega
        · rw [if_neg d]; omega
      · intro y hy
        rw [ln, c1t y hy, a5 y hy]
        have m0 : cN (fun j => decide (gA ob 6 (p * 16 + n32 j) = y)) (gA ob 2 p).toInt.toNat = cN (fun j => if j = (gA ob 3 p).toInt.toNat then false else decide (gA ob 6 (p * 16 + n32 j) = y)) (gA ob 2 p).toInt.toNat + if y = o then 1 else 0 := by
          by_cases d : y = o
          · rw [if_pos d]
            refine cN_set (j := (gA ob 3 p).toInt.toNat) (by simp) (by simp only [decide_eq_true_eq]; rw [n32_t _ a1.1, hold, d]) _ hhn (fun i _ n => by
              show decide _ = if _ then _ else _
              rw [if_neg n])
          · rw [if_neg d, Nat.add_zero]
            apply cN_eq
            intro i hi
            by_cases n : i = (gA ob 3 p).toInt.toNat
            · rw [if_pos n, n, n32_t _ a1.1, hold]; exact decide_eq_false (fun e => d e.symm)
            · rw [if_neg n]
        have m1 : cN (fun j => decide (gA r 6 (p * 16 + n32 j) = y)) (gA ob 2 p).toInt.toNat = cN (fun j => if j = (gA ob 3 p).toInt.toNat then false else decide (gA ob 6 (p * 16 + n32 j) = y)) (gA ob 2 p).toInt.toNat + if y = g then 1 else 0 := by
          have rgi : ∀ i, i < (gA ob 2 p).toInt.toNat → ¬ i = (gA ob 3 p).toInt.toNat → gA r 6 (p * 16 + n32 i) = gA ob 6 (p * 16 + n32 i) := fun i hi n => by
            rw [rr.rg, if_neg (fun e => n ((pin hp hh16 (by omega)).mp e))]
          have rgh : gA r 6 (p * 16 + n32 (gA ob 3 p).toInt.toNat) = g := by rw [rr.rg, n32_t _ a1.1, if_pos rfl]
          by_cases d : y = g
          · rw [if_pos d]
            refine cN_set (j := (gA ob 3 p).toInt.toNat) (by simp) (by simp only [decide_eq_true_eq]; rw [rgh, d]) _ hhn (fun i hi n => by
              show decide _ = if _ then _ else _
              rw [if_neg n, rgi i hi n])
          · rw [if_neg d, Nat.add_zero]
            apply cN_eq
            intro i hi
            by_cases n : i = (gA ob 3 p).toInt.toNat
            · rw [if_pos n, n, rgh]; exact decide_eq_false (fun e => d e.symm)
            · rw [if_neg n, rgi i hi n]
        rw [m1, m0]
        generalize cN (fun j => if j = (gA ob 3 p).toInt.toNat then false else decide (gA ob 6 (p * 16 + n32 j) = y)) (gA ob 2 p).toInt.toNat = X
        by_cases d1 : y = o
        · by_cases d2 : y = g
          · simp only [if_pos d1, if_pos d2]; omega
          · simp only [if_pos d1, if_neg d2]; omega
        · by_cases d2 : y = g
          · simp only [if_neg d1, if_pos d2]; omega
          · simp only [if_neg d1, if_neg d2]; omega
  obtain ⟨m1, m2, m3, m4, m5, m6, m7⟩ := mid
  have gt : n32 g.toInt.toNat = g := n32_t g hg.1
  have r7 : ∀ i, i < 16 → gA r 7 (p * 16 + n32 i) = if i = g.toInt.toNat then c1 (p * 16 + n32 i) + 1 else c1 (p * 16 + n32 i) := fun i hi => by
    rw [rr.cn]
    by_cases d : i = g.toInt.toNat
    · rw [if_pos d, if_pos ((pin hp hg hi).mpr d)]
    · rw [if_neg d, if_neg (fun e => d ((pin hp hg hi).mp e))]
  have add := w_add (c := fun i => c1 (p * 16 + n32 i)) (c' := fun i => gA r 7 (p * 16 + n32 i)) (w := w1) (w' := gA r 4 p) (L := (gA r 2 p).toInt - 1) (g := g.toInt.toNat) hg16 (fun i hi => by have := m1 i hi; have := cb _ (n16 i hi); omega) r7 m2 m3 (by simp only [gt]; exact rr.ws)
  have mg := m1 g.toInt.toNat hg16
  rw [gt] at mg
  have cbg := cb g hg
  have r7g : (gA r 7 (p * 16 + g)).toInt = (c1 (p * 16 + g)).toInt + 1 := by
    rw [rr.cn, if_pos rfl, s1 (by omega)]
  have evt : (gA r 1 p).toInt = (gA ob 1 p).toInt + 1 := by rw [rr.vt, s1 (by omega)]
  have tcb := cN_b (fun g => decide (¬ gA ob 8 (p * 16 + n32 g) = 0)) 16
  have tcs : (gA r 5 p).toInt = (cN (fun g => decide (¬ gA r 8 (p * 16 + n32 g) = 0)) 16 : Nat) ∧ (gA r 5 p).toInt ≤ (gA ob 5 p).toInt + 1 := by
    by_cases d : gA ob 8 (p * 16 + g) = 0
    · have e := rr.tc
      rw [if_pos d] at e
      have e' : (gA r 5 p).toInt = (gA ob 5 p).toInt + 1 := by rw [e, s1 (by omega)]
      refine ⟨?_, by omega⟩
      have cc := cN_set (f := fun g => decide (¬ gA ob 8 (p * 16 + n32 g) = 0)) (g := fun g => decide (¬ gA r 8 (p * 16 + n32 g) = 0)) (j := g.toInt.toNat) (by simp only [gt]; simp [d]) (by simp only [gt]; simp [rr.tn]) 16 hg16 (fun i hi n => by
        show decide _ = decide _
        rw [rr.ts _ (fun e => n ((pin hp hg hi).mp e))])
      rw [e', a8, cc]; omega
    · have e := rr.tc
      rw [if_neg d] at e
      refine ⟨?_, by rw [e]; omega⟩
      rw [e, a8]
      congr 1
      apply cN_eq
      intro i hi
      by_cases n : i = g.toInt.toNat
      · rw [n, gt]; simp [d, rr.tn]
      · rw [rr.ts _ (fun e => n ((pin hp hg hi).mp e))]
  refine ⟨⟨?_, ?_, ?_, ?_, ?_, add.1, ?_, tcs.1, ?_, ?_⟩, by rw [r7g]; omega⟩
  · rw [rr.si, rr.hd]
    have e := s1 (i := gA ob 3 p) (by omega)
    rw [In, md (by omega) (by omega)]
    exact ⟨Int.emod_nonneg _ (by omega), Int.emod_lt_of_pos _ (by omega)⟩
  · rw [rr.si]; exact m4
  · rw [rr.si]; exact m6
  · intro j hj
    rw [rr.rg]
    split
    · exact hg
    · exact a4 j hj
  · intro y hy
    rw [m7 y hy]
    by_cases d : y = g
    · rw [if_pos d, d, r7g]
    · rw [if_neg d, rr.cn, if_neg (fun e => d (px_inj hp hp hy hg e).2)]; omega
  · rw [← add.2]; omega
  · intro y hy h0
    by_cases d : y = g
    · rw [d]; exact rr.tn
    · have ne : ¬ p * 16 + y = p * 16 + g := fun e => d (px_inj hp hp hy hg e).2
      rw [rr.cn, if_neg ne] at h0
      rw [rr.ts _ ne]
      have := m1 y.toInt.toNat (by omega)
      rw [n32_t y hy.1] at this
      exact a9 y hy (by omega)
  · rw [evt]; have := tcs.2; omega
/-- another process keeps its window -/
theorem WI_rro {ob r : Rec} {p q g w1 : Int32} {c1 : Int32 → Int32} (hT : (gI ob 3).toInt ≤ 16) (hp : In 4 p) (hq : In 4 q) (hg : In 16 g) (hh : In 16 (gA ob 3 p)) (ho : In 16 (gA ob 6 (p * 16 + gA ob 3 p))) (ne : ¬ q = p) (h : WI ob q) (rr : RR p g ob r c1 w1) : WI r q := by
  refine WI_c h hT (rr.si 3) (fun k _ hk => rr.so k q (by omega) ne) (fun k j h6 h8 hj => ?_)
  have nx : ∀ y, In 16 y → ¬ q * 16 + j = p * 16 + y := fun y hy e => ne (px_inj hq hp hj hy e).1
  have : k = 6 ∨ k = 7 ∨ k = 8 := by omega
  rcases this with rfl | rfl | rfl
  · rw [rr.rg, if_neg (nx _ hh)]
  · rw [rr.cn, if_neg (nx _ hg)]
    by_cases c : gA ob 2 p < gI ob 3
    · rw [(rr.c1l c).1]
    · rw [(rr.c1g c).1, if_neg (nx _ ho)]
  · rw [rr.ts _ (nx _ hg)]
theorem WI_b {ob : Rec} {p : Int32} (h : WI ob p) (hT : (gI ob 3).toInt ≤ 16) : WB ob p :=
  have a : In 16 (gA ob 3 p) := ⟨h.hh.1, by have := h.hh.2; omega⟩
  ⟨a, h.rg _ a⟩
/-- an empty window -/
theorem WI_0 {ob : Rec} {p : Int32} (hT : 1 ≤ (gI ob 3).toInt) (hA : ∀ k, 1 ≤ k → k ≤ 5 → gA ob k p = 0) (h6 : ∀ j, In 16 j → In 16 (gA ob 6 (p * 16 + j))) (hB : ∀ k j, 7 ≤ k → k ≤ 8 → In 16 j → gA ob k (p * 16 + j) = 0) : WI ob p := by
  have n16 : ∀ i, i < 16 → In 16 (n32 i) := fun i hi => ni (n := 16) hi (by omega)
  have z : (0 : Int32).toInt = 0 := rfl
  have cz : ∀ n, cN (fun _ => false) n = 0 := fun n => by induction n with
    | zero => rfl
    | succ n ih => show cN (fun _ => false) n + _ = 0; rw [ih]; rfl
  have sz : ∀ n, sN (fun _ => 0) n = 0 := fun n => by induction n with
    | zero => rfl
    | succ n ih => show sN (fun _ => 0) n + 0 = 0; rw [ih]
  refine ⟨?_, ?_, ?_, h6, ?_, ?_, ?_, ?_, ?_, ?_⟩
  · rw [hA 3 (by omega) (by omega), In, z]; omega
  · rw [hA 2 (by omega) (by omega), z]; omega
  · intro _; rw [hA 2 (by omega) (by omega), hA 3 (by omega) (by omega)]
  · intro g hg; rw [hB 7 g (by omega) (by omega) hg, hA 2 (by omega) (by omega)]; rfl
  · rw [hA 4 (by omega) (by omega), cN_eq (g := fun _ => false) 16 (fun i hi => by rw [hB 7 _ (by omega) (by omega) (n16 i hi)]; rfl), cz]; rfl
  · rw [hA 4 (by omega) (by omega), hA 2 (by omega) (by omega), sN_eq (g := fun _ => 0) 16 (fun i hi => by rw [hB 7 _ (by omega) (by omega) (n16 i hi)]; rfl), sz]; rfl
  · rw [hA 5 (by omega) (by omega), cN_eq (g := fun _ => false) 16 (fun i hi => by rw [hB 8 _ (by omega) (by omega) (n16 i hi)]; rfl), cz]; rfl
  · intro g hg h0; rw [hB 7 g (by omega) (by omega) hg] at h0; exact absurd h0 (by decide)
  · rw [hA 1 (by omega) (by omega), hA 2 (by omega) (by omega), hA 5 (by omega) (by omega)]; decide
/-- a process's own sums -/
theorem WI_le {ob : Rec} {p : Int32} (h : WI ob p) : 0 ≤ (gA ob 4 p).toInt ∧ (gA ob 4 p).toInt ≤ (gI ob 3).toInt ∧ (gA ob 4 p).toInt ≤ (gA ob 1 p).toInt ∧ (gA ob 4 p).toInt ≤ (gA ob 5 p).toInt ∧ (gA ob 5 p).toInt ≤ 16 ∧ (gA ob 5 p).toInt ≤ (gA ob 1 p).toInt := by
  have n16 : ∀ i, i < 16 → In 16 (n32 i) := fun i hi => ni (n := 16) hi (by omega)
  have a := h.sl
  have b := h.hl
  have c := h.vt
  have d := h.ws
  have e := h.tc
  have f := cN_b (fun g => decide (¬ gA ob 8 (p * 16 + n32 g) = 0)) 16
  have g := cN_le (f := fun g => decide (0 < (gA ob 7 (p * 16 + n32 g)).toInt)) (g := fun g => decide (¬ gA ob 8 (p * 16 + n32 g) = 0)) 16 (fun i hi e => by
    simp only [decide_eq_true_eq] at e ⊢
    exact h.wt _ (n16 i hi) e)
  omega
def ps (f : Nat → Int32) : Nat → Int32
  | 0 => 0
  | n + 1 => ps f n + f n
theorem rw_e {ob : Rec} (h : PI ob) {x w : Int32} (hx : In 64 x) (hw : In 4 w) : X_readWord ob x w = some (cont ob x w) := by
  have hF := h.hF
  unfold X_readWord
  show _ = some (ct (gA ob 9) (gA ob 10) (gA ob 15) (gA ob 17) x w)
  unfold ct
  rw [ckn (m := 64) rfl hx]
  by_cases c : gA ob 9 x < 0
  · rw [if_pos c, if_pos c, ckn (m := 64) rfl hx]
    by_cases d : gA ob 10 x < 0
    · rw [if_pos d, if_pos d]
    · have s := (h.slt x hx (nneg' d)).2.1
      have e := ix s hw
      rw [if_neg d, if_neg d, ckn (m := 256) rfl (by rw [In, e]; omega)]
  · have s := (h.frm x hx (nneg' c)).1
    have e := ix (s := gA ob 9 x) ⟨s.1, by omega⟩ hw
    rw [if_neg c, if_neg c, ckn (m := 128) rfl (by rw [In, e]; omega)]
theorem ms4 (NF : Nat) {ob : Rec} (h : PI ob) (k : Int32 → Int32 → Int32 → Option Int32) (q acc i x : Int32) (hx : In 64 x) : ∀ fuel, 5 ≤ fuel → X_memorySum_l33 NF ob k fuel q acc i x 0 = k q (acc + cont ob x 0 + cont ob x 1 + cont ob x 2 + cont ob x 3) (i + 1) := by
  intro fuel hfu
  obtain ⟨n, rfl⟩ : ∃ n, fuel = n + 5 := ⟨fuel - 5, by omega⟩
  show X_memorySum_w33 NF ob k (X_memorySum_l33 NF ob k (n + 4)) q acc i x 0 = _
  unfold X_memorySum_w33; rw [if_pos (by decide), rw_e h hx (by decide), Option.bind_some]
  show X_memorySum_w33 NF ob k (X_memorySum_l33 NF ob k (n + 3)) q _ i x 1 = _
  unfold X_memorySum_w33; rw [if_pos (by decide), rw_e h hx (by decide), Option.bind_some]
  show X_memorySum_w33 NF ob k (X_memorySum_l33 NF ob k (n + 2)) q _ i x 2 = _
  unfold X_memorySum_w33; rw [if_pos (by decide), rw_e h hx (by decide), Option.bind_some]
  show X_memorySum_w33 NF ob k (X_memorySum_l33 NF ob k (n + 1)) q _ i x 3 = _
  unfold X_memorySum_w33; rw [if_pos (by decide), rw_e h hx (by decide), Option.bind_some]
  show X_memorySum_w33 NF ob k (X_memorySum_l33 NF ob k n) q _ i x 4 = _
  unfold X_memorySum_w33; rw [if_neg (by decide)]
theorem ms_e (NF : Nat) (hNF : 70 < NF) {ob : Rec} (h : PI ob) {q : Int32} (hq : In (gI ob 0).toInt q) (hN : gI ob 1 = 16) (f : Nat → Int32) (hf : ∀ g w, g < 16 → w < 4 → cont ob (q * 16 + n32 g) (n32 w) = f (4 * g + w)) : X_memorySum NF ob q = some (ps f 64) := by
  have hP := h.hP
  have hq4 : In 4 q := ⟨hq.1, by omega⟩
  have l : ∀ (m fuel : Nat) (i : Nat), m < fuel → i ≤ 16 → 16 - i ≤ m → X_memorySum_l14 NF ob fuel q (ps f (4 * i)) (n32 i) = some (ps f 64) := by
    intro m
    induction m with
    | zero =>
      intro fuel i hfu h1 h2
      obtain ⟨n, rfl⟩ : ∃ n, fuel = n + 1 := ⟨fuel - 1, by omega⟩
      have : i = 16 := by omega
      subst this
      show X_memorySum_w14 NF ob _ q _ _ = _
      unfold X_memorySum_w14; rw [hN, if_neg (by decide)]
    | succ m ih =>
      intro fuel i hfu h1 h2
      obtain ⟨n, rfl⟩ : ∃ n, fuel = n + 1 := ⟨fuel - 1, by omega⟩
      show X_memorySum_w14 NF ob (X_memorySum_l14 NF ob n) q _ _ = _
      unfold X_memorySum_w14; rw [hN]
      by_cases c : i < 16
      · have e := px hq4 (ni (n := 16) c (by omega))
        have ni' := ni (n := 16) c (by omega)
        rw [if_pos (ltn (m := 16) rfl ni'.2), ms4 NF h _ q _ _ _ (by rw [In, e]; omega) NF (by omega)]
        have e1 : n32 i + 1 = n32 (i + 1) := eq_i32.mpr (by rw [s1 (by rw [nt i (by omega)]; omega), nt i (by omega), nt (i + 1) (by omega)]; omega)
        have e2 : ps f (4 * i) + cont ob (q * 16 + n32 i) 0 + cont ob (q * 16 + n32 i) 1 + cont ob (q * 16 + n32 i) 2 + cont ob (q * 16 + n32 i) 3 = ps f (4 * (i + 1)) := by
          have f0 := hf i 0 c (by omega)
          have f1 := hf i 1 c (by omega)
          have f2 := hf i 2 c (by omega)
          have f3 := hf i 3 c (by omega)
          have n0 : n32 0 = 0 := by decide
          have n1 : n32 1 = 1 := by decide
          have n2 : n32 2 = 2 := by decide
          have n3 : n32 3 = 3 := by decide
          rw [n0] at f0; rw [n1] at f1; rw [n2] at f2; rw [n3] at f3
          rw [f0, f1, f2, f3]
          show _ = ps f (4 * i + 1 + 1 + 1 + 1)
          rfl
        rw [e1, e2]; exact ih n (i + 1) (by omega) (by omega) (by omega)
      · have : i = 16 := by omega
        subst this
        rw [if_neg (by decide)]
  unfold X_memorySum; rw [vpy hq, Option.bind_some, if_neg (by decide)]
  exact l 16 NF 0 (by omega) (by omega) (by omega)
theorem wss_e {ob : Rec} {q : Int32} (hP : (gI ob 0).toInt ≤ 4) (hq : In (gI ob 0).toInt q) : X_workingSetSize ob q = some (gA ob 4 q) := by
  unfold X_workingSetSize; rw [vpy hq, Option.bind_some, if_neg (by decide), ckn (m := 4) rfl ⟨hq.1, by omega⟩]
theorem vt_e {ob : Rec} {q : Int32} (hP : (gI ob 0).toInt ≤ 4) (hq : In (gI ob 0).toInt q) : X_virtualTime ob q = some (gA ob 1 q) := by
  unfold X_virtualTime; rw [vpy hq, Option.bind_some, if_neg (by decide), ckn (m := 4) rfl ⟨hq.1, by omega⟩]
theorem sus_e {ob : Rec} {q : Int32} (hP : (gI ob 0).toInt ≤ 4) (hq : In (gI ob 0).toInt q) (hf : gA ob 0 q = 0 ∨ gA ob 0 q = 1) : X_isSuspended ob q = some (gA ob 0 q) := by
  unfold X_isSuspended; rw [vpy hq, Option.bind_some, if_neg (by decide), ckn (m := 4) rfl ⟨hq.1, by omega⟩]
  rcases hf with e | e <;> rw [e] <;> rfl
-- USE: bits pga pgb pgc pgd pge pgf pgg
def bt (l : Int64) (a : Nat) : Bool := l.toBitVec.getLsbD a
theorem sh64 : ∀ n ∈ List.range 64, ((n32 n &&& 0x3f).toInt64.toUInt64.toBitVec % 64).toNat = n ∧ ((n32 n &&& 0x3f).toInt64.toBitVec.smod 64).toNat = n := by decide +kernel
theorem sh64' {a : Int32} (ha : In 64 a) : ((a &&& 0x3f).toInt64.toUInt64.toBitVec % 64).toNat = a.toInt.toNat ∧ ((a &&& 0x3f).toInt64.toBitVec.smod 64).toNat = a.toInt.toNat := by
  have := sh64 a.toInt.toNat (List.mem_range.mpr (by omega))
  rw [n32_t a ha.1] at this; exact this
theorem shr_e (l m : Int64) (s : UInt64) (k : Nat) (hs : (s.toBitVec % 64).toNat = k) : ((l.toUInt64 >>> s).toInt64 &&& m).toBitVec = (l.toBitVec >>> k) &&& m.toBitVec := by
  rw [Int64.toBitVec_and]
  congr 1
  show (l.toUInt64 >>> s).toBitVec = _
  rw [UInt64.toBitVec_shiftRight, BitVec.ushiftRight_eq', hs]; rfl
theorem bit1 (l : Int64) {a : Int32} (ha : In 64 a) : (((l.toUInt64 >>> (a &&& 0x3f).toInt64.toUInt64).toInt64) &&& (1 : Int64)) = if bt l a.toInt.toNat then 1 else 0 := by
  apply Int64.toBitVec_inj.mp
  rw [shr_e l 1 _ _ (sh64' ha).1]
  generalize a.toInt.toNat = k
  apply BitVec.eq_of_getLsbD_eq
  intro i hi
  have o : (1 : Int64).toBitVec = 1#64 := rfl
  rw [BitVec.getLsbD_and, BitVec.getLsbD_ushiftRight, o]
  by_cases c : i = 0
  · subst c
    cases h : bt l k <;> unfold bt at h <;> simp [h]
  · have c1 : (1#64).getLsbD i = false := by rw [BitVec.getLsbD_one]; simp [c]
    rw [c1, Bool.and_false]
    cases bt l k
    · simp
    · show false = (1#64).getLsbD i
      rw [c1]
theorem bit1n (l : Int64) {a : Int32} (ha : In 64 a) : ((((l.toUInt64 >>> (a &&& 0x3f).toInt64.toUInt64).toInt64) &&& (1 : Int64)) = 0) ↔ bt l a.toInt.toNat = false := by
  rw [bit1 l ha]
  cases bt l a.toInt.toNat <;> decide
theorem bitor (l : Int64) {a : Int32} (ha : In 64 a) (i : Nat) (hi : i < 64) : bt (l ||| ((1 : Int64) <<< (a &&& 0x3f).toInt64)) i = (bt l i || decide (i = a.toInt.toNat)) := by
  unfold bt
  have o : (1 : Int64).toBitVec = 1#64 := rfl
  rw [Int64.toBitVec_or, BitVec.getLsbD_or, Int64.toBitVec_shiftLeft, BitVec.shiftLeft_eq', (sh64' ha).2, BitVec.getLsbD_shiftLeft, o, BitVec.getLsbD_one]
  congr 1
  generalize a.toInt.toNat = k
  by_cases c : i = k
  · subst c; simp [hi]
  · by_cases d : i < k
    · simp [d, c]
    · have : ¬ i - k = 0 := by omega
      simp [this, c]
theorem nib0 (l : Int64) {g : Nat} (hg : g < 16) (h : ∀ w, w < 4 → bt l (4 * g + w) = false) : (((l.toUInt64 >>> (((4 : Int32) * n32 g) &&& 0x3f).toInt64.toUInt64).toInt64) &&& (15 : Int64)) = 0 := by
  have e4 : (4 : Int32) * n32 g = n32 (4 * g) := by
    apply eq_i32.mpr
    rw [ml (by rw [nt g (by omega)]; show -2147483648 ≤ 4 * (g : Int) ∧ 4 * (g : Int) < 2147483648; omega), nt g (by omega), nt (4 * g) (by omega)]
    show (4 : Int) * g = _
    omega
  rw [e4]
  have t := sh64' (a := n32 (4 * g)) (ni (n := 64) (by omega) (by omega))
  rw [nt (4 * g) (by omega)] at t
  apply Int64.toBitVec_inj.mp
  rw [shr_e l 15 _ (4 * g) (by rw [t.1]; omega)]
  have o : (15 : Int64).toBitVec = BitVec.ofNat 64 (2 ^ 4 - 1) := rfl
  apply BitVec.eq_of_getLsbD_eq
  intro i hi
  rw [BitVec.getLsbD_and, BitVec.getLsbD_ushiftRight]
  show _ = (0#64).getLsbD i
  by_cases c : i < 4
  · have := h i c
    unfold bt at this
    rw [this]; simp
  · have z : (15 : Int64).toBitVec.getLsbD i = false := by
      rw [o, BitVec.getLsbD_ofNat, Nat.testBit_two_pow_sub_one]; simp [c]
    rw [z]; simp
def vlq (q a : Int32) : Int32 := (q * 256 + a) + 1
abbrev PR (ob : Rec) (q : Int32) (l : Int64) (v : Int32) (n : Int) : Prop := (WI ob q) ∧ (gA ob 1 q = v) ∧ (v.toInt ≤ n) ∧ (∀ a, In 64 a → cont ob (q * 16 + a / 4) (a % 4) = if bt l a.toInt.toNat then vlq q a else 0) ∧ (∀ a, In 64 a → bt l a.toInt.toNat = true → ¬ gA ob 8 (q * 16 + a / 4) = 0)
theorem PR.wi {ob : Rec} {q : Int32} {l : Int64} {v : Int32} {n : Int} (h : PR ob q l v n) : WI ob q := h.1
theorem PR.vt {ob : Rec} {q : Int32} {l : Int64} {v : Int32} {n : Int} (h : PR ob q l v n) : gA ob 1 q = v := h.2.1
theorem PR.vb {ob : Rec} {q : Int32} {l : Int64} {v : Int32} {n : Int} (h : PR ob q l v n) : v.toInt ≤ n := h.2.2.1
theorem PR.cv {ob : Rec} {q : Int32} {l : Int64} {v : Int32} {n : Int} (h : PR ob q l v n) : ∀ a, In 64 a → cont ob (q * 16 + a / 4) (a % 4) = if bt l a.toInt.toNat then vlq q a else 0 := h.2.2.2.1
theorem PR.tb {ob : Rec} {q : Int32} {l : Int64} {v : Int32} {n : Int} (h : PR ob q l v n) : ∀ a, In 64 a → bt l a.toInt.toNat = true → ¬ gA ob 8 (q * 16 + a / 4) = 0 := h.2.2.2.2
abbrev GG (ob : Rec) (B : Int32 → Int64) (V : Int32 → Int32) (s : Int32) (n : Int) : Prop := (PI ob) ∧ (gI ob 0 = 4 ∧ gI ob 1 = 16 ∧ gI ob 2 = 6 ∧ gI ob 3 = 3) ∧ (∀ q, In 4 q → gA ob 0 q = 0 ∨ gA ob 0 q = 1) ∧ (gI ob 5 - gI ob 6 - sc ob = s) ∧ (∀ q, In 4 q → PR ob q (B q) (V q) n)
theorem GG.pi {ob : Rec} {B : Int32 → Int64} {V : Int32 → Int32} {s : Int32} {n : Int} (h : GG ob B V s n) : PI ob := h.1
theorem GG.cf {ob : Rec} {B : Int32 → Int64} {V : Int32 → Int32} {s : Int32} {n : Int} (h : GG ob B V s n) : gI ob 0 = 4 ∧ gI ob 1 = 16 ∧ gI ob 2 = 6 ∧ gI ob 3 = 3 := h.2.1
theorem GG.fl {ob : Rec} {B : Int32 → Int64} {V : Int32 → Int32} {s : Int32} {n : Int} (h : GG ob B V s n) : ∀ q, In 4 q → gA ob 0 q = 0 ∨ gA ob 0 q = 1 := h.2.2.1
theorem GG.su {ob : Rec} {B : Int32 → Int64} {V : Int32 → Int32} {s : Int32} {n : Int} (h : GG ob B V s n) : gI ob 5 - gI ob 6 - sc ob = s := h.2.2.2.1
theorem GG.pr {ob : Rec} {B : Int32 → Int64} {V : Int32 → Int32} {s : Int32} {n : Int} (h : GG ob B V s n) : ∀ q, In 4 q → PR ob q (B q) (V q) n := h.2.2.2.2
theorem pq {q a : Int32} (hq : In 4 q) (ha : In 64 a) : In 16 (a / 4) ∧ In 4 (a % 4) ∧ In 64 (q * 16 + a / 4) := by
  have x := a4 (N := 16) (by omega) (a := a) ha
  have e1 := px hq x.2.2.1
  exact ⟨x.2.2.1, x.2.2.2, by rw [In, e1]; omega⟩
theorem pqe {p q a b : Int32} (hp : In 4 p) (hq : In 4 q) (ha : In 64 a) (hb : In 64 b) : (p * 16 + a / 4 = q * 16 + b / 4 ∧ a % 4 = b % 4) ↔ (p = q ∧ a = b) := by
  have x := a4 (N := 16) (by omega) (a := a) ha
  have y := a4 (N := 16) (by omega) (a := b) hb
  have e1 := px hp x.2.2.1
  have e2 := px hq y.2.2.1
  constructor
  · intro ⟨h1, h2⟩
    rw [eq_i32, e1, e2] at h1
    rw [eq_i32] at h2
    exact ⟨eq_i32.mpr (by omega), eq_i32.mpr (by omega)⟩
  · intro ⟨h1, h2⟩; rw [h1, h2]; exact ⟨rfl, rfl⟩
theorem t3 : (3 : Int32).toInt = 3 := rfl
theorem arp3 (a b s t : Int32) (h : s = t + 1) : a - b - t = a - b - s + 1 := by
  subst h
  grind
theorem arp4 (a b x y z w s : Int32) (h : a - b - (x + y + z + w) = s) : a - b - s = 0 + x + y + z + w := by
  subst h
  grind
theorem gg_ref {ob o1 o2 o3 : Rec} {B B' : Int32 → Int64} {V : Int32 → Int32} {s p a w1 : Int32} {n : Int} {c1 : Int32 → Int32} (h : GG ob B V s n) (hn : n < 900) (hp : In 4 p) (ha : In 64 a) (k1 : ∀ k, ¬ k = 7 → gI o1 k = gI ob k) (k2 : ∀ k x, k ≤ 8 → gA o1 k x = gA ob k x)
    (rr : RR p (a / 4) o1 o2 c1 w1) (lc : LC p o2 o3) (pr : PI (sI o3 4 0)) (hc : ∀ q b, In 4 q → In 64 b → cont (sI o3 4 0) (q * 16 + b / 4) (b % 4) = if bt (B' q) b.toInt.toNat then vlq q b else 0)
    (hb : ∀ q b, In 4 q → In 64 b → bt (B' q) b.toInt.toNat = true → bt (B q) b.toInt.toNat = true ∨ q * 16 + b / 4 = p * 16 + a / 4) :
    GG (sI o3 4 0) B' (fun q => if q = p then V p + 1 else V q) s (n + 1) ∧ 0 < (gA o3 7 (p * 16 + a / 4)).toInt := by
  obtain ⟨g16, -, -⟩ := pq hp ha
  have i3 : gI o1 3 = 3 := (k1 3 (by decide)).trans h.cf.2.2.2
  have T16 : (gI o1 3).toInt ≤ 16 := by rw [i3]; decide
  have obT : (gI ob 3).toInt ≤ 16 := by rw [h.cf.2.2.2]; decide
  have w1' : ∀ q, In 4 q → WI o1 q := fun q hq => WI_c (h.pr q hq).wi obT (k1 3 (by decide)) (fun k _ hk => k2 k q (by omega)) (fun k j _ hk _ => k2 k _ hk)
  have vp := (h.pr p hp).vt
  have vb := (h.pr p hp).vb
  have v0 := (h.pr p hp).wi.vt
  rw [vp] at v0
  have wb := WI_b (w1' p hp) T16
  have wp := WI_rr (by rw [i3]; decide) hp g16 (w1' p hp) (by rw [k2 1 p (by omega), vp]; omega) rr
  have w2 : ∀ q, In 4 q → WI o2 q := fun q hq => by
    by_cases c : q = p
    · rw [c]; exact wp.1
    · exact WI_rro T16 hp hq g16 wb.1 wb.2 c (w1' q hq) rr
  have w3 : ∀ q, In 4 q → WI (sI o3 4 0) q := fun q hq => WI_c (w2 q hq) (by rw [rr.si]; exact T16) (lc.si 3 (by decide) (by decide)) (fun k hk _ => lc.sa k q (by omega)) (fun k j hk _ _ => lc.sa k _ (by omega))
  have gi : ∀ k, ¬ k = 5 → ¬ k = 6 → ¬ k = 7 → ¬ k = 4 → gI (sI o3 4 0) k = gI ob k := fun k x1 x2 x3 x4 => by
    rw [gI_sI, if_neg x4, lc.si k x1 x2, rr.si, k1 k x3]
  have o20 : ∀ q, gA o2 0 q = gA ob 0 q := fun q => (rr.sa 0 q (by omega)).trans (k2 0 q (by omega))
  obtain ⟨f1, f2⟩ := lc.bl (fun q hq => by rw [o20]; exact h.fl q hq)
  have sce : sc o2 = sc ob := by unfold sc; rw [o20, o20, o20, o20]
  refine ⟨⟨pr, ?_, f1, ?_, fun q hq => ⟨w3 q hq, ?_, ?_, fun b hb' => hc q b hq hb', ?_⟩⟩, ?_⟩
  · rw [gi 0 (by decide) (by decide) (by decide) (by decide), gi 1 (by decide) (by decide) (by decide) (by decide), gi 2 (by decide) (by decide) (by decide) (by decide), gi 3 (by decide) (by decide) (by decide) (by decide)]; exact h.cf
  · show gI o3 5 - gI o3 6 - sc o3 = s
    rw [f2, sce, rr.si, rr.si, k1 5 (by decide), k1 6 (by decide)]; exact h.su
  · show gA o3 1 q = if q = p then V p + 1 else V q
    rw [lc.sa 1 q (by decide)]
    by_cases c : q = p
    · rw [if_pos c, c, rr.vt, k2 1 p (by omega), vp]
    · rw [if_neg c, rr.so 1 q (by omega) c, k2 1 q (by omega)]; exact (h.pr q hq).vt
  · show (if q = p then V p + 1 else V q).toInt ≤ n + 1
    by_cases c : q = p
    · rw [if_pos c, s1 (by omega)]; omega
    · rw [if_neg c]; have := (h.pr q hq).vb; omega
  · intro b hb' e
    show ¬ gA o3 8 _ = 0
    rw [lc.sa 8 _ (by decide)]
    by_cases c : q * 16 + b / 4 = p * 16 + a / 4
    · rw [c]; exact rr.tn
    · rw [rr.ts _ c, k2 8 _ (by omega)]
      exact (h.pr q hq).tb b hb' ((hb q b hq hb' e).resolve_right c)
  · rw [lc.sa 7 _ (by decide)]; exact wp.2
theorem GG_ab {ob : Rec} {B : Int32 → Int64} {V : Int32 → Int32} {s : Int32} {n : Int} (h : GG ob B V s n) {p a : Int32} (hp : In 4 p) (ha : In 64 a) : In (gI ob 0).toInt p ∧ In (4 * (gI ob 1).toInt) a ∧ ¬ gI ob 3 = 0 ∧ WB ob p := by
  refine ⟨by rw [h.cf.1]; exact hp, by rw [h.cf.2.1]; exact ha, by rw [h.cf.2.2.2]; decide, WI_b (h.pr p hp).wi (by rw [h.cf.2.2.2]; decide)⟩
theorem op_st (NF : Nat) (hNF : 70 < NF) {ob : Rec} {B : Int32 → Int64} {V : Int32 → Int32} {s p a : Int32} {n : Int} (h : GG ob B V s n) (hn : n < 900) (hp : In 4 p) (ha : In 64 a) (hz : gA ob 0 p = 0) :
    ∃ r, X_store NF ob p a (vlq p a) = some (0, r) ∧ gI r 4 = 0 ∧ gA r 0 p = 0 ∧ 0 < (gA r 7 (p * 16 + a / 4)).toInt ∧ GG r (fun q => if q = p then (B p ||| ((1 : Int64) <<< (a &&& 0x3f).toInt64)) else B q) (fun q => if q = p then V p + 1 else V q) s (n + 1) := by
  obtain ⟨g1, g2, g3, g4⟩ := GG_ab h hp ha
  obtain ⟨o1, o2, c1, w1, o3, e, k1, k2, rr, -, lc, pr, r0, ec⟩ := st_e NF hNF (v := vlq p a) h.pi g1 g2 hz g3 g4
  obtain ⟨x1, x2⟩ := gg_ref (B' := fun q => if q = p then (B p ||| ((1 : Int64) <<< (a &&& 0x3f).toInt64)) else B q) h hn hp ha k1 k2 rr lc pr (fun q b hq hb => by
      obtain ⟨-, b1, b2⟩ := pq hq hb
      rw [ec _ _ b2 b1, (h.pr q hq).cv b hb]
      have ee := pqe hq hp hb ha
      by_cases c : q = p
      · simp only [if_pos c]
        rw [bitor (B p) ha _ (by omega)]
        by_cases d : b = a
        · rw [if_pos (ee.mpr ⟨c, d⟩), if_pos (by rw [d]; simp), c, d]
        · have d' : ¬ b.toInt.toNat = a.toInt.toNat := fun e => d (eq_i32.mpr (by omega))
          rw [if_neg (fun e => d (ee.mp e).2), c, decide_eq_false d', Bool.or_false]
      · rw [if_neg (fun e => c (ee.mp e).1)]; simp only [if_neg c]) (fun q b hq hb e => by
      by_cases c : q = p
      · simp only [if_pos c] at e
        rw [bitor (B p) ha _ (by omega)] at e
        by_cases d : b = a
        · right; rw [c, d]
        · have d' : ¬ b.toInt.toNat = a.toInt.toNat := fun e => d (eq_i32.mpr (by omega))
          rw [decide_eq_false d', Bool.or_false] at e
          left; rw [c]; exact e
      · simp only [if_neg c] at e; exact Or.inl e)
  exact ⟨_, e, rfl, r0, x2, x1⟩
theorem op_ld (NF : Nat) (hNF : 70 < NF) {ob : Rec} {B : Int32 → Int64} {V : Int32 → Int32} {s p a : Int32} {n : Int} (h : GG ob B V s n) (hn : n < 900) (hp : In 4 p) (ha : In 64 a) (hz : gA ob 0 p = 0) :
    ∃ r, X_load NF ob p a = some ((if bt (B p) a.toInt.toNat then vlq p a else 0 : Int32).toInt64, r) ∧ gI r 4 = 0 ∧ gA r 0 p = 0 ∧ 0 < (gA r 7 (p * 16 + a / 4)).toInt ∧ GG r (fun q => if q = p then B p else B q) (fun q => if q = p then V p + 1 else V q) s (n + 1) := by
  obtain ⟨g1, g2, g3, g4⟩ := GG_ab h hp ha
  obtain ⟨o1, o2, c1, w1, o3, e, k1, k2, rr, -, lc, pr, r0, ec⟩ := ld_e NF hNF h.pi g1 g2 hz g3 g4
  have eB : (fun q => if q = p then B p else B q) = B := funext fun q => by
    by_cases c : q = p
    · simp only [c, if_true]
    · simp only [if_neg c]
  rw [(h.pr p hp).cv a ha] at e
  obtain ⟨x1, x2⟩ := gg_ref (B' := B) h hn hp ha k1 k2 rr lc pr (fun q b hq hb => by
      obtain ⟨-, b1, b2⟩ := pq hq hb
      rw [ec _ _ b2 b1, (h.pr q hq).cv b hb]) (fun q b hq hb e => Or.inl e)
  rw [eB]
  exact ⟨_, e, rfl, r0, x2, x1⟩
theorem op_rl (NF : Nat) (hNF : 70 < NF) {ob : Rec} {B : Int32 → Int64} {V : Int32 → Int32} {s p : Int32} {n : Int} (h : GG ob B V s n) (hn : 0 ≤ n) (hp : In 4 p) :
    ∃ r, X_release NF ob p = some (0, r) ∧ gI r 4 = 0 ∧ gA r 0 p = 0 ∧ GG r (fun q => if q = p then 0 else B q) (fun q => if q = p then 0 else V q) (if gA ob 0 p = 0 then s else s + 1) n := by
  have c0 := h.cf
  obtain ⟨o1, o2, o3, e, d, hs, -, lc, pr, r0, ec⟩ := rl_e NF hNF h.pi (p := p) (by rw [c0.1]; exact hp)
  have obT : (gI ob 3).toInt ≤ 16 := by rw [c0.2.2.2]; decide
  have i2 : ∀ k, gI o2 k = gI ob k := fun k => by rw [← hs]; exact d.si k
  have a2 : ∀ k x, k ≤ 5 → ¬ x = p → gA o2 k x = gA ob k x := fun k x hk hx => by
    rw [← hs]; simp only [gA_sA, hx, and_false, if_false]; exact d.sa k x (by omega)
  have a2p : ∀ k, k ≤ 5 → gA o2 k p = 0 := fun k hk => by
    have : k = 0 ∨ k = 1 ∨ k = 2 ∨ k = 3 ∨ k = 4 ∨ k = 5 := by omega
    rw [← hs]
    rcases this with rfl | rfl | rfl | rfl | rfl | rfl <;> simp [gA_sA]
  have a6 : ∀ k x, 6 ≤ k → gA o2 k x = gA o1 k x := fun k x hk => by
    rw [← hs]; simp [gA_sA, show ¬ k = 0 by omega, show ¬ k = 1 by omega, show ¬ k = 2 by omega, show ¬ k = 3 by omega, show ¬ k = 4 by omega, show ¬ k = 5 by omega]
  have a78 : ∀ q k j, In 4 q → k = 7 ∨ k = 8 → In 16 j → gA o2 k (q * 16 + j) = if q = p then 0 else gA ob k (q * 16 + j) := fun q k j hq hk hj => by
    have e1 := px hq hj
    have m : (q * 16 + j).toInt % 16 < (gI ob 1).toInt := by rw [c0.2.1, e1]; show _ < (16 : Int); omega
    have i64 : In 64 (q * 16 + j) := by rw [In, e1]; omega
    have : gA o1 k (q * 16 + j) = if (q * 16 + j).toInt / 16 = p.toInt then 0 else gA ob k (q * 16 + j) := by
      rcases hk with rfl | rfl
      · exact d.s7 _ i64 m
      · exact d.s8 _ i64 m
    rw [a6 k _ (by omega), this]
    have qe : (q * 16 + j).toInt / 16 = q.toInt := by rw [e1]; omega
    rw [qe]
    by_cases c : q = p
    · rw [if_pos c, if_pos (by rw [c])]
    · rw [if_neg c, if_neg (fun e => c (eq_i32.mpr e))]
  have w2 : ∀ q, In 4 q → WI o2 q := fun q hq => by
    by_cases c : q = p
    · rw [c]
      refine WI_0 (by rw [i2, c0.2.2.2]; decide) (fun k _ hk => a2p k hk) (fun j hj => ?_) (fun k j h7 h8 hj => ?_)
      · rw [a6 6 _ (by omega), d.sa 6 _ (by omega)]; exact (h.pr p hp).wi.rg j hj
      · rw [a78 p k j hp (by omega) hj, if_pos rfl]
    · refine WI_c (h.pr q hq).wi obT (i2 3) (fun k _ hk => a2 k q hk c) (fun k j h6 h8 hj => ?_)
      by_cases k6 : k = 6
      · rw [k6, a6 6 _ (by omega), d.sa 6 _ (by omega)]
      · rw [a78 q k j hq (by omega) hj, if_neg c]
  have w3 : ∀ q, In 4 q → WI (sI o3 4 0) q := fun q hq => WI_c (w2 q hq) (by rw [i2]; exact obT) (lc.si 3 (by decide) (by decide)) (fun k hk _ => lc.sa k q (by omega)) (fun k j hk _ _ => lc.sa k _ (by omega))
  have gi : ∀ k, ¬ k = 5 → ¬ k = 6 → ¬ k = 4 → gI (sI o3 4 0) k = gI ob k := fun k x1 x2 x4 => by
    rw [gI_sI, if_neg x4, lc.si k x1 x2, i2]
  have fl2 : ∀ q, In 4 q → gA o2 0 q = 0 ∨ gA o2 0 q = 1 := fun q hq => by
    by_cases c : q = p
    · rw [c, a2p 0 (by omega)]; exact Or.inl rfl
    · rw [a2 0 q (by omega) c]; exact h.fl q hq
  obtain ⟨f1, f2⟩ := lc.bl fl2
  have o2s : ∀ q, gA o2 0 q = gA (sA ob 0 p 0) 0 q := fun q => by
    by_cases c : q = p
    · rw [c, a2p 0 (by omega), gA_sA, if_pos ⟨rfl, rfl⟩]
    · rw [a2 0 q (by omega) c, gA_sA, if_neg (fun e => c e.2)]
  have sce : sc o2 = sc (sA ob 0 p 0) := by unfold sc; rw [o2s, o2s, o2s, o2s]
  refine ⟨_, e, rfl, r0, ⟨pr, ?_, f1, ?_, fun q hq => ⟨w3 q hq, ?_, ?_, fun b hb => ?_, fun b hb e => ?_⟩⟩⟩
  · rw [gi 0 (by decide) (by decide) (by decide), gi 1 (by decide) (by decide) (by decide), gi 2 (by decide) (by decide) (by decide), gi 3 (by decide) (by decide) (by decide)]; exact h.cf
  · show gI o3 5 - gI o3 6 - sc o3 = _
    rw [f2, sce, i2, i2]
    have su := h.su
    by_cases c : gA ob 0 p = 0
    · rw [if_pos c, ← su]
      congr 1
      unfold sc
      have : ∀ q, gA (sA ob 0 p 0) 0 q = gA ob 0 q := fun q => by
        rw [gA_sA]
        by_cases c2 : q = p
        · rw [if_pos ⟨rfl, c2⟩, c2, c]
        · rw [if_neg (fun e => c2 e.2)]
      rw [this, this, this, this]
    · rw [if_neg c, ← su]
      have := sc_dn hp ((h.fl p hp).resolve_left c)
      exact arp3 _ _ _ _ this
  · show gA o3 1 q = if q = p then 0 else V q
    rw [lc.sa 1 q (by decide)]
    by_cases c : q = p
    · rw [if_pos c, c, a2p 1 (by omega)]
    · rw [if_neg c, a2 1 q (by omega) c]; exact (h.pr q hq).vt
  · show (if q = p then (0 : Int32) else V q).toInt ≤ n
    by_cases c : q = p
    · rw [if_pos c]; exact hn
    · rw [if_neg c]; exact (h.pr q hq).vb
  · show _ = if bt (if q = p then 0 else B q) _ = true then _ else _
    obtain ⟨b0, b1, b2⟩ := pq hq hb
    have e1 := px hq b0
    have qe : (q * 16 + b / 4).toInt / 16 = q.toInt := by rw [e1]; omega
    rw [ec _ _ b2 b1, qe]
    by_cases c : q = p
    · rw [if_pos (by rw [c]), if_pos c, if_neg]
      show ¬ (0#64).getLsbD _ = true
      simp
    · rw [if_neg (fun e => c (eq_i32.mpr e)), if_neg c]; exact (h.pr q hq).cv b hb
  · show ¬ gA o3 8 _ = 0
    have e' : bt (if q = p then 0 else B q) b.toInt.toNat = true := e
    by_cases c : q = p
    · rw [if_pos c] at e'
      have z : bt 0 b.toInt.toNat = false := by
        show (0#64).getLsbD _ = false
        simp
      rw [z] at e'; exact absurd e' (by decide)
    · rw [if_neg c] at e'
      rw [lc.sa 8 _ (by decide), a78 q 8 _ hq (by omega) (pq hq hb).1, if_neg c]; exact (h.pr q hq).tb b hb e'
theorem GG_s {ob : Rec} {B : Int32 → Int64} {V : Int32 → Int32} {s : Int32} {n : Int} (h : GG ob B V s n) (c : Int32) : GG (sI ob 4 c) B V s n := by
  refine ⟨PI_c h.pi (fun k hk => by rw [gI_sI, if_neg (by omega)]) (fun _ _ _ => rfl), h.cf, h.fl, h.su, fun q hq => ?_⟩
  have p := h.pr q hq
  exact ⟨WI_c p.wi (by rw [h.cf.2.2.2]; decide) rfl (fun _ _ _ => rfl) (fun _ _ _ _ _ => rfl), p.vt, p.vb, p.cv, p.tb⟩
theorem GG_x {ob : Rec} {B B' : Int32 → Int64} {V V' : Int32 → Int32} {s : Int32} {n n' : Int} (h : GG ob B V s n) (hn : n ≤ n') (hB : ∀ q, In 4 q → B' q = B q) (hV : ∀ q, In 4 q → V' q = V q) : GG ob B' V' s n' := by
  refine ⟨h.pi, h.cf, h.fl, h.su, fun q hq => ?_⟩
  rw [hB q hq, hV q hq]
  have p := h.pr q hq
  exact ⟨p.wi, p.vt, by have := p.vb; omega, p.cv, p.tb⟩
/-- the law's own sums over one process -/
theorem l9_e (NF : Nat) (ob : Rec) (q v : Int32) (l : Int64) (f : Nat → Int32) (hf : ∀ a, a < 64 → f a = if bt l a then vlq q (n32 a) else 0) : ∀ (m fuel i : Nat), m < fuel → i ≤ 64 → 64 - i ≤ m → L_proc_l9 NF ob fuel q v l (ps f i) 0 (n32 i) = L_proc_l47 NF ob NF q v l (ps f 64) 0 0 := by
  intro m
  induction m with
  | zero =>
    intro fuel i hfu h1 h2
    obtain ⟨n, rfl⟩ : ∃ n, fuel = n + 1 := ⟨fuel - 1, by omega⟩
    have : i = 64 := by omega
    subst this
    show L_proc_w9 NF ob _ q v l _ _ _ = _
    unfold L_proc_w9; rw [if_neg (by decide)]
  | succ m ih =>
    intro fuel i hfu h1 h2
    obtain ⟨n, rfl⟩ : ∃ n, fuel = n + 1 := ⟨fuel - 1, by omega⟩
    show L_proc_w9 NF ob (L_proc_l9 NF ob n) q v l _ _ _ = _
    unfold L_proc_w9
    by_cases c : i < 64
    · have hi := ni (n := 64) c (by omega)
      have e1 : n32 i + 1 = n32 (i + 1) := eq_i32.mpr (by rw [s1 (by rw [nt i (by omega)]; omega), nt i (by omega), nt (i + 1) (by omega)]; omega)
      have e2 : (n32 i).toInt.toNat = i := by rw [nt i (by omega)]; omega
      have nx := ih n (i + 1) (by omega) (by omega) (by omega)
      have b := bit1n l hi
      rw [e2] at b
      rw [if_pos (ltn (m := 64) rfl hi.2), e1]
      by_cases d : bt l i = true
      · rw [if_neg (fun e => by rw [b.mp e] at d; exact absurd d (by decide))]
        unfold L_val
        rw [Option.bind_some]
        have : ps f i + ((q * 256 + n32 i) + 1) = ps f (i + 1) := by
          show _ = ps f i + f i
          rw [hf i c, if_pos d]; rfl
        rw [this]; exact nx
      · have d' : bt l i = false := eq_false_of_ne_true d
        rw [if_pos (b.mpr d')]
        have : ps f i = ps f (i + 1) := by
          show _ = ps f i + f i
          rw [hf i c, if_neg d, Int32.add_zero]
        rw [this]; exact nx
    · have : i = 64 := by omega
      subst this
      rw [if_neg (by decide)]
theorem l47_e (NF : Nat) (ob : Rec) (q v S : Int32) (l : Int64) (t : Nat → Bool) (ht : ∀ g w, g < 16 → w < 4 → bt l (4 * g + w) = true → t g = true) : ∀ (m fuel i : Nat) (c : Int32), m < fuel → i ≤ 16 → 16 - i ≤ m → 0 ≤ c.toInt → c.toInt ≤ (cN t i : Nat) →
    ∃ (n : Nat) (d : Int32), L_proc_l47 NF ob fuel q v l S c (n32 i) = L_proc_w47 NF ob (L_proc_l47 NF ob n) q v l S d 16 ∧ d.toInt ≤ (cN t 16 : Nat) := by
  intro m
  induction m with
  | zero =>
    intro fuel i c hfu h1 h2 h3 h4
    obtain ⟨n, rfl⟩ : ∃ n, fuel = n + 1 := ⟨fuel - 1, by omega⟩
    have : i = 16 := by omega
    subst this
    exact ⟨n, c, rfl, h4⟩
  | succ m ih =>
    intro fuel i c hfu h1 h2 h3 h4
    obtain ⟨n, rfl⟩ : ∃ n, fuel = n + 1 := ⟨fuel - 1, by omega⟩
    by_cases ci : i < 16
    · have hi := ni (n := 16) ci (by omega)
      have e1 : n32 i + 1 = n32 (i + 1) := eq_i32.mpr (by rw [s1 (by rw [nt i (by omega)]; omega), nt i (by omega), nt (i + 1) (by omega)]; omega)
      have st : L_proc_l47 NF ob (n + 1) q v l S c (n32 i) = if (((l.toUInt64 >>> (((4 : Int32) * n32 i) &&& 0x3f).toInt64.toUInt64).toInt64) &&& (15 : Int64)) = (0 : Int64) then L_proc_l47 NF ob n q v l S c (n32 i + 1) else L_proc_l47 NF ob n q v l S (c + 1) (n32 i + 1) := by
        show L_proc_w47 NF ob (L_proc_l47 NF ob n) q v l S c (n32 i) = _
        unfold L_proc_w47; rw [if_pos (ltn (m := 16) rfl hi.2)]
      rw [st, e1]
      have mono : cN t i ≤ cN t (i + 1) := by show _ ≤ cN t i + _; omega
      have cb := cN_b t i
      by_cases z : (((l.toUInt64 >>> (((4 : Int32) * n32 i) &&& 0x3f).toInt64.toUInt64).toInt64) &&& (15 : Int64)) = (0 : Int64)
      · rw [if_pos z]; exact ih n (i + 1) c (by omega) (by omega) (by omega) h3 (by omega)
      · have tt : t i = true := by
          refine Classical.byContradiction fun nt' => z (nib0 l ci (fun w hw => ?_))
          cases h : bt l (4 * i + w)
          · rfl
          · exact absurd (ht i w ci hw h) nt'
        have e2 : cN t (i + 1) = cN t i + 1 := by show cN t i + _ = _; rw [tt]; rfl
        have e3 := s1 (i := c) (by omega)
        rw [if_neg z]; exact ih n (i + 1) (c + 1) (by omega) (by omega) (by omega) (by omega) (by omega)
    · have : i = 16 := by omega
      subst this
      exact ⟨n, c, rfl, h4⟩
theorem n4 {g w : Nat} (hg : g < 16) (hw : w < 4) : n32 (4 * g + w) / 4 = n32 g ∧ n32 (4 * g + w) % 4 = n32 w ∧ In 64 (n32 (4 * g + w)) ∧ (n32 (4 * g + w)).toInt.toNat = 4 * g + w := by
  have h := ni (i := 4 * g + w) (n := 64) (by omega) (by omega)
  have x := a4 (N := 16) (by omega) (a := n32 (4 * g + w)) h
  have e := nt (4 * g + w) (by omega)
  refine ⟨eq_i32.mpr ?_, eq_i32.mpr ?_, h, by rw [e]; omega⟩
  · rw [x.1, e, nt g (by omega)]; omega
  · rw [x.2.1, e, nt w (by omega)]; omega
theorem proc_e (NF : Nat) (hNF : 70 < NF) {ob : Rec} {B : Int32 → Int64} {V : Int32 → Int32} {s q : Int32} {n : Int} (h : GG ob B V s n) (hq : In 4 q) : L_proc NF ob q (V q) (B q) = some 1 := by
  have p := h.pr q hq
  have hq0 : In (gI ob 0).toInt q := by rw [h.cf.1]; exact hq
  have hP4 : (gI ob 0).toInt ≤ 4 := by rw [h.cf.1]; decide
  have f := fun a : Nat => (if bt (B q) a then vlq q (n32 a) else 0 : Int32)
  have l9 := l9_e NF ob q (V q) (B q) (fun a : Nat => (if bt (B q) a then vlq q (n32 a) else 0 : Int32)) (fun a _ => rfl) 64 NF 0 (by omega) (by omega) (by omega)
  have l9' : L_proc_l9 NF ob NF q (V q) (B q) 0 0 0 = L_proc_l47 NF ob NF q (V q) (B q) (ps (fun a : Nat => (if bt (B q) a then vlq q (n32 a) else 0 : Int32)) 64) 0 0 := l9
  unfold L_proc
  rw [l9']
  obtain ⟨m, d, e, hd⟩ := l47_e NF ob q (V q) (ps (fun a : Nat => (if bt (B q) a then vlq q (n32 a) else 0 : Int32)) 64) (B q) (fun g => decide (¬ gA ob 8 (q * 16 + n32 g) = 0)) (fun g w hg hw hb => by
    obtain ⟨x1, x2, x3, x4⟩ := n4 hg hw
    have := p.tb (n32 (4 * g + w)) x3 (by rw [x4]; exact hb)
    rw [x1] at this
    exact decide_eq_true this) 16 NF 0 0 (by omega) (by omega) (by omega) (by decide) (Int.le_refl 0)
  have e' : L_proc_l47 NF ob NF q (V q) (B q) (ps (fun a : Nat => (if bt (B q) a then vlq q (n32 a) else 0 : Int32)) 64) 0 0 = L_proc_w47 NF ob (L_proc_l47 NF ob m) q (V q) (B q) (ps (fun a : Nat => (if bt (B q) a then vlq q (n32 a) else 0 : Int32)) 64) d 16 := e
  rw [e']
  have ms := ms_e NF hNF h.pi hq0 h.cf.2.1 (fun a : Nat => (if bt (B q) a then vlq q (n32 a) else 0 : Int32)) (fun g w hg hw => by
    obtain ⟨x1, x2, x3, x4⟩ := n4 hg hw
    have := p.cv (n32 (4 * g + w)) x3
    rw [x1, x2, x4] at this; exact this)
  have tp : X_touchedPages ob q = some (gA ob 5 q) := by
    unfold X_touchedPages; rw [vpy hq0, Option.bind_some, if_neg (by decide), ckn (m := 4) rfl hq]
  have le := WI_le p.wi
  rw [h.cf.2.2.2, t3, p.vt] at le
  have tc := p.wi.tc
  unfold L_proc_w47
  rw [if_neg (by decide), wss_e hP4 hq0, Option.bind_some, tp, Option.bind_some, vt_e hP4 hq0, Option.bind_some, if_pos p.vt, ms, Option.bind_some, if_pos rfl,
    if_neg (by rw [lt_i, t3]; omega), if_neg (by rw [lt_i]; omega), if_neg (by rw [lt_i]; omega), if_neg (by rw [lt_i]; omega), if_neg (by rw [lt_i]; show ¬ (16 : Int) < _; omega), if_neg (by rw [lt_i]; omega)]
/-- the active processes' sum -/
def av (ob : Rec) (acc q : Int32) : Int32 := if gA ob 0 q = 0 then acc + gA ob 4 q else acc
theorem at_s (NF : Nat) {ob : Rec} (h0 : gI ob 0 = 4) (k : Int32 → Int32 → Option Int32) (acc q : Int32) (hq : In 4 q) : X_activeTotal_w4 NF ob k acc q = k (av ob acc q) (q + 1) := by
  unfold X_activeTotal_w4 av
  rw [h0, if_pos (ltn (m := 4) rfl hq.2), ckn (m := 4) rfl hq]
  split
  · rw [ckn (m := 4) rfl hq]
  · rfl
theorem at4 (NF : Nat) {ob : Rec} (h0 : gI ob 0 = 4) : ∀ fuel, 5 ≤ fuel → X_activeTotal_l4 NF ob fuel 0 0 = some (av ob (av ob (av ob (av ob 0 0) 1) 2) 3) := by
  intro fuel hfu
  obtain ⟨n, rfl⟩ : ∃ n, fuel = n + 5 := ⟨fuel - 5, by omega⟩
  show X_activeTotal_w4 NF ob (X_activeTotal_l4 NF ob (n + 4)) 0 0 = _
  rw [at_s NF h0 _ _ _ (by decide)]
  show X_activeTotal_w4 NF ob (X_activeTotal_l4 NF ob (n + 3)) _ 1 = _
  rw [at_s NF h0 _ _ _ (by decide)]
  show X_activeTotal_w4 NF ob (X_activeTotal_l4 NF ob (n + 2)) _ 2 = _
  rw [at_s NF h0 _ _ _ (by decide)]
  show X_activeTotal_w4 NF ob (X_activeTotal_l4 NF ob (n + 1)) _ 3 = _
  rw [at_s NF h0 _ _ _ (by decide)]
  show X_activeTotal_w4 NF ob (X_activeTotal_l4 NF ob n) _ 4 = _
  unfold X_activeTotal_w4; rw [h0, if_neg (by decide)]
section law
variable (NF : Nat) (z : Int32) (f : Int32 → Int32) (k43 : Rec → Int64 → Int64 → Int64 → Int64 → Int32 → Int32 → Int32 → Int32 → Int32 → Int32 → Option (Int32))
theorem ls_s {ob : Rec} {B : Int32 → Int64} {V : Int32 → Int32} {s : Int32} {n : Int} (h : GG ob B V s n) (k : Rec → Int64 → Int64 → Int64 → Int64 → Int32 → Int32 → Int32 → Int32 → Int32 → Int32 → Int32 → Int32 → Int32 → Option (Int32)) (l2 l4 l6 l8 : Int64) (i10 i11 i12 i13 i14 i15 c acc q : Int32) (hq : In 4 q) :
    L_law_w482 NF z f k43 k ob l2 l4 l6 l8 i10 i11 i12 i13 i14 i15 c acc q = k ob l2 l4 l6 l8 i10 i11 i12 i13 i14 i15 (c + gA ob 0 q) (av ob acc q) (q + 1) := by
  have hq0 : In (gI ob 0).toInt q := by rw [h.cf.1]; exact hq
  have hP4 : (gI ob 0).toInt ≤ 4 := by rw [h.cf.1]; decide
  unfold L_law_w482 av
  rw [if_pos (ltn (m := 4) rfl hq.2), sus_e hP4 hq0 (h.fl q hq), Option.bind_some]
  rcases h.fl q hq with e | e
  · rw [if_pos e, if_pos e, wss_e hP4 hq0, Option.bind_some, e, Int32.add_zero]
  · rw [if_neg (by rw [e]; decide), if_neg (by rw [e]; decide), e]
theorem b462_e (hNF : 70 < NF) {ob : Rec} {l2 l4 l6 l8 : Int64} {i10 i11 i12 i13 s i15 code : Int32} {n : Int} {B : Int32 → Int64} {V : Int32 → Int32} (h : GG ob B V s n) (hB : B 0 = l2 ∧ B 1 = l4 ∧ B 2 = l6 ∧ B 3 = l8) (hV : V 0 = i10 ∧ V 1 = i11 ∧ V 2 = i12 ∧ V 3 = i13) (hc : gI ob 4 = code) :
    L_law_b462 NF z f k43 ob l2 l4 l6 l8 i10 i11 i12 i13 s i15 code = k43 ob l2 l4 l6 l8 i10 i11 i12 i13 s (i15 + 3) := by
  unfold L_law_b462 X_lastStatus
  rw [Option.bind_some, if_pos hc]
  obtain ⟨m, em⟩ : ∃ m, NF = m + 5 := ⟨NF - 5, by omega⟩
  have l : ∀ fuel, fuel = m + 5 → L_law_l482 NF z f k43 fuel ob l2 l4 l6 l8 i10 i11 i12 i13 s i15 0 0 0 = k43 ob l2 l4 l6 l8 i10 i11 i12 i13 s (i15 + 3) := by
    intro fuel e
    subst e
    show L_law_w482 NF z f k43 (L_law_l482 NF z f k43 (m + 4)) ob l2 l4 l6 l8 i10 i11 i12 i13 s i15 0 0 0 = _
    rw [ls_s NF z f k43 h _ _ _ _ _ _ _ _ _ _ _ _ _ _ (by decide)]
    show L_law_w482 NF z f k43 (L_law_l482 NF z f k43 (m + 3)) ob l2 l4 l6 l8 i10 i11 i12 i13 s i15 _ _ 1 = _
    rw [ls_s NF z f k43 h _ _ _ _ _ _ _ _ _ _ _ _ _ _ (by decide)]
    show L_law_w482 NF z f k43 (L_law_l482 NF z f k43 (m + 2)) ob l2 l4 l6 l8 i10 i11 i12 i13 s i15 _ _ 2 = _
    rw [ls_s NF z f k43 h _ _ _ _ _ _ _ _ _ _ _ _ _ _ (by decide)]
    show L_law_w482 NF z f k43 (L_law_l482 NF z f k43 (m + 1)) ob l2 l4 l6 l8 i10 i11 i12 i13 s i15 _ _ 3 = _
    rw [ls_s NF z f k43 h _ _ _ _ _ _ _ _ _ _ _ _ _ _ (by decide)]
    show L_law_w482 NF z f k43 (L_law_l482 NF z f k43 m) ob l2 l4 l6 l8 i10 i11 i12 i13 s i15 _ _ 4 = _
    have p0 := proc_e NF hNF h (q := 0) (by decide)
    have p1 := proc_e NF hNF h (q := 1) (by decide)
    have p2 := proc_e NF hNF h (q := 2) (by decide)
    have p3 := proc_e NF hNF h (q := 3) (by decide)
    rw [hB.1, hV.1] at p0
    rw [hB.2.1, hV.2.1] at p1
    rw [hB.2.2.1, hV.2.2.1] at p2
    rw [hB.2.2.2, hV.2.2.2] at p3
    unfold L_law_w482 X_activeTotal X_suspensions X_readmissions
    have su := h.su
    have ss : gI ob 5 - gI ob 6 - s = 0 + gA ob 0 0 + gA ob 0 1 + gA ob 0 2 + gA ob 0 3 := by
      unfold sc at su; exact arp4 _ _ _ _ _ _ _ su
    rw [if_neg (by decide), at4 NF h.cf.1 NF (by omega), Option.bind_some, if_pos rfl, Option.bind_some, Option.bind_some, if_pos ss, p0, Option.bind_some, if_neg (by decide), p1, Option.bind_some, if_neg (by decide), p2, Option.bind_some, if_neg (by decide), p3, Option.bind_some, if_neg (by decide)]
  exact l NF em
def f4 {α : Type} (a b c d : α) (q : Int32) : α := if q = 0 then a else if q = 1 then b else if q = 2 then c else d
variable (hk : Int32 → Prop)
theorem b399_e (hNF : 70 < NF) {ob : Rec} {l2 l4 l6 l8 l' : Int64} {i10 i11 i12 i13 s i15 p v' : Int32} {n : Int} (code : Int32) (hp : In 4 p) (h : GG ob (fun q => if q = p then l' else f4 l2 l4 l6 l8 q) (fun q => if q = p then v' else f4 i10 i11 i12 i13 q) s n) (hc : gI ob 4 = code)
    (hk : ∀ r l2 l4 l6 l8 i10 i11 i12 i13 s, GG r (f4 l2 l4 l6 l8) (f4 i10 i11 i12 i13) s n → k43 r l2 l4 l6 l8 i10 i11 i12 i13 s (i15 + 3) = some 1) :
    L_law_b399 NF z f k43 ob l2 l4 l6 l8 i10 i11 i12 i13 s i15 p l' v' code = some 1 := by
  unfold L_law_b399
  rcases q4 hp with rfl | rfl | rfl | rfl
  · rw [if_pos rfl, b462_e NF z f k43 (l2 := l') (l4 := l4) (l6 := l6) (l8 := l8) (i10 := v') (i11 := i11) (i12 := i12) (i13 := i13) hNF h ⟨rfl, rfl, rfl, rfl⟩ ⟨rfl, rfl, rfl, rfl⟩ hc]
    refine hk _ _ _ _ _ _ _ _ _ _ (GG_x h (Int.le_refl _) (fun q hq => ?_) (fun q hq => ?_)) <;> rcases q4 hq with rfl | rfl | rfl | rfl <;> rfl
  · rw [if_neg (by decide), if_pos rfl, b462_e NF z f k43 (l2 := l2) (l4 := l') (l6 := l6) (l8 := l8) (i10 := i10) (i11 := v') (i12 := i12) (i13 := i13) hNF h ⟨rfl, rfl, rfl, rfl⟩ ⟨rfl, rfl, rfl, rfl⟩ hc]
    refine hk _ _ _ _ _ _ _ _ _ _ (GG_x h (Int.le_refl _) (fun q hq => ?_) (fun q hq => ?_)) <;> rcases q4 hq with rfl | rfl | rfl | rfl <;> rfl
  · rw [if_neg (by decide), if_neg (by decide), if_pos rfl, b462_e NF z f k43 (l2 := l2) (l4 := l4) (l6 := l') (l8 := l8) (i10 := i10) (i11 := i11) (i12 := v') (i13 := i13) hNF h ⟨rfl, rfl, rfl, rfl⟩ ⟨rfl, rfl, rfl, rfl⟩ hc]
    refine hk _ _ _ _ _ _ _ _ _ _ (GG_x h (Int.le_refl _) (fun q hq => ?_) (fun q hq => ?_)) <;> rcases q4 hq with rfl | rfl | rfl | rfl <;> rfl
  · rw [if_neg (by decide), if_neg (by decide), if_neg (by decide), if_pos rfl, b462_e NF z f k43 (l2 := l2) (l4 := l4) (l6 := l6) (l8 := l') (i10 := i10) (i11 := i11) (i12 := i12) (i13 := v') hNF h ⟨rfl, rfl, rfl, rfl⟩ ⟨rfl, rfl, rfl, rfl⟩ hc]
    refine hk _ _ _ _ _ _ _ _ _ _ (GG_x h (Int.le_refl _) (fun q hq => ?_) (fun q hq => ?_)) <;> rcases q4 hq with rfl | rfl | rfl | rfl <;> rfl
theorem b399_n (hNF : 70 < NF) {ob : Rec} {l2 l4 l6 l8 : Int64} {i10 i11 i12 i13 s i15 p : Int32} {n : Int} (code : Int32) (hp : In 5 p) (h : GG ob (f4 l2 l4 l6 l8) (f4 i10 i11 i12 i13) s n) (hc : gI ob 4 = code)
    (hk : ∀ r l2 l4 l6 l8 i10 i11 i12 i13 s, GG r (f4 l2 l4 l6 l8) (f4 i10 i11 i12 i13) s n → k43 r l2 l4 l6 l8 i10 i11 i12 i13 s (i15 + 3) = some 1) :
    L_law_b399 NF z f k43 ob l2 l4 l6 l8 i10 i11 i12 i13 s i15 p (f4 l2 l4 l6 l8 p) (f4 i10 i11 i12 i13 p) code = some 1 := by
  have fin := b462_e NF z f k43 (i15 := i15) (l2 := l2) (l4 := l4) (l6 := l6) (l8 := l8) (i10 := i10) (i11 := i11) (i12 := i12) (i13 := i13) hNF h ⟨rfl, rfl, rfl, rfl⟩ ⟨rfl, rfl, rfl, rfl⟩ hc
  have e : L_law_b399 NF z f k43 ob l2 l4 l6 l8 i10 i11 i12 i13 s i15 p (f4 l2 l4 l6 l8 p) (f4 i10 i11 i12 i13 p) code = L_law_b462 NF z f k43 ob l2 l4 l6 l8 i10 i11 i12 i13 s i15 code := by
    unfold L_law_b399 f4
    by_cases c0 : p = 0
    · simp only [if_pos c0]
    · simp only [if_neg c0]
      by_cases c1 : p = 1
      · simp only [if_pos c1]
      · simp only [if_neg c1]
        by_cases c2 : p = 2
        · simp only [if_pos c2]
        · simp only [if_neg c2]
          split <;> rfl
  rw [e, fin]; exact hk _ _ _ _ _ _ _ _ _ _ h
/-- a call that is refused -/
theorem b253_n (hNF : 70 < NF) {ob : Rec} {l2 l4 l6 l8 : Int64} {i10 i11 i12 i13 s i15 op p a : Int32} {n : Int} (code : Int32) (hcz : ¬ code = 0) (hp : In 5 p) (h : GG ob (f4 l2 l4 l6 l8) (f4 i10 i11 i12 i13) s n) (hck : X_check ob p a = some code)
    (hk : ∀ r l2 l4 l6 l8 i10 i11 i12 i13 s, GG r (f4 l2 l4 l6 l8) (f4 i10 i11 i12 i13) s n → k43 r l2 l4 l6 l8 i10 i11 i12 i13 s (i15 + 3) = some 1) :
    L_law_b253 NF z f k43 ob l2 l4 l6 l8 i10 i11 i12 i13 s i15 op p a (f4 l2 l4 l6 l8 p) (f4 i10 i11 i12 i13 p) code = some 1 := by
  have fin := b399_n NF z f k43 (i15 := i15) hNF code hp (GG_s h code) rfl hk
  have b360 : L_law_b360 NF z f k43 (sI ob 4 code) l2 l4 l6 l8 i10 i11 i12 i13 s i15 p a (f4 l2 l4 l6 l8 p) (f4 i10 i11 i12 i13 p) code = some 1 := by
    unfold L_law_b360 L_law_b383
    rw [if_neg hcz, if_neg hcz]; exact fin
  unfold L_law_b253
  by_cases c : op < 3
  · rw [if_pos c]
    unfold X_load
    rw [hck, Option.bind_some, if_neg hcz, bind2_some, if_neg hcz]
    unfold L_law_b307
    rw [if_pos rfl]; exact b360
  · rw [if_neg c]
    unfold L_val X_store
    rw [Option.bind_some, hck, Option.bind_some, if_neg hcz, bind2_some, if_pos rfl, if_neg hcz]; exact b360
theorem b253_0 (hNF : 70 < NF) {ob : Rec} {l2 l4 l6 l8 : Int64} {i10 i11 i12 i13 s i15 op p a : Int32} {n : Int} (hn : n < 900) (hp : In 4 p) (ha : In 64 a) (h : GG ob (f4 l2 l4 l6 l8) (f4 i10 i11 i12 i13) s n) (hz : gA ob 0 p = 0)
    (hk : ∀ r l2 l4 l6 l8 i10 i11 i12 i13 s, GG r (f4 l2 l4 l6 l8) (f4 i10 i11 i12 i13) s (n + 1) → k43 r l2 l4 l6 l8 i10 i11 i12 i13 s (i15 + 3) = some 1) :
    L_law_b253 NF z f k43 ob l2 l4 l6 l8 i10 i11 i12 i13 s i15 op p a (f4 l2 l4 l6 l8 p) (f4 i10 i11 i12 i13 p) 0 = some 1 := by
  have b360 : ∀ (r : Rec) (l' : Int64), gI r 4 = 0 → gA r 0 p = 0 → 0 < (gA r 7 (p * 16 + a / 4)).toInt → GG r (fun q => if q = p then l' else f4 l2 l4 l6 l8 q) (fun q => if q = p then f4 i10 i11 i12 i13 p + 1 else f4 i10 i11 i12 i13 q) s (n + 1) →
      L_law_b360 NF z f k43 r l2 l4 l6 l8 i10 i11 i12 i13 s i15 p a l' (f4 i10 i11 i12 i13 p) 0 = some 1 := by
    intro r l' r4 r0 r7 g
    obtain ⟨x1, x2, x3⟩ := pq hp ha
    have iw : X_inWorkingSet r p (a / 4) = some 1 := by
      unfold X_inWorkingSet
      rw [vpy (by rw [g.cf.1]; exact hp), Option.bind_some, if_neg (by decide), if_neg (nneg x1.1), if_pos (by rw [g.cf.2.1]; exact ltn (m := 16) rfl x1.2), ckn (m := 64) rfl x3, if_pos (by rw [lt_i]; exact r7)]
    unfold L_law_b360 L_law_b383
    rw [if_pos rfl, iw, Option.bind_some, if_neg (by decide), if_pos rfl, sus_e (by rw [g.cf.1]; decide) (by rw [g.cf.1]; exact hp) (g.fl p hp), Option.bind_some, if_pos r0]
    exact b399_e NF z f k43 hNF 0 hp g r4 hk
  unfold L_law_b253
  by_cases c : op < 3
  · obtain ⟨r, e, r4, r0, r7, g⟩ := op_ld NF hNF h hn hp ha hz
    rw [if_pos c, e, bind2_some, if_pos rfl]
    have b := bit1n (f4 l2 l4 l6 l8 p) ha
    by_cases d : bt (f4 l2 l4 l6 l8 p) a.toInt.toNat = true
    · rw [if_neg (fun e => by rw [b.mp e] at d; exact absurd d (by decide)), if_pos d]
      unfold L_val L_law_b307
      rw [Option.bind_some, if_pos (show (vlq p a).toInt64 = ((p * 256 + a) + 1).toInt64 from rfl)]; exact b360 r _ r4 r0 r7 g
    · have d' : bt (f4 l2 l4 l6 l8 p) a.toInt.toNat = false := eq_false_of_ne_true d
      rw [if_pos (b.mpr d'), if_neg d]
      unfold L_law_b307
      rw [if_pos (by decide)]; exact b360 r _ r4 r0 r7 g
  · obtain ⟨r, e, r4, r0, r7, g⟩ := op_st NF hNF h hn hp ha hz
    unfold L_val
    rw [if_neg c, Option.bind_some]
    unfold vlq at e
    rw [e, bind2_some, if_pos rfl, if_pos rfl]; exact b360 r _ r4 r0 r7 g
theorem ck4 {ob : Rec} {p a : Int32} (h0 : gI ob 0 = 4) (hp : ¬ p.toInt < 4) : X_validPid ob p = some 0 := by
  unfold X_validPid
  rw [h0]
  split
  · rfl
  · rw [if_neg (nltn (m := 4) rfl hp)]
theorem b165_e (hNF : 70 < NF) {ob : Rec} {l2 l4 l6 l8 : Int64} {i10 i11 i12 i13 s i15 op p a : Int32} {n : Int} (hn : 0 ≤ n ∧ n < 900) (hp : In 5 p) (ha : In 66 a) (h : GG ob (f4 l2 l4 l6 l8) (f4 i10 i11 i12 i13) s n)
    (hk : ∀ r l2 l4 l6 l8 i10 i11 i12 i13 s, GG r (f4 l2 l4 l6 l8) (f4 i10 i11 i12 i13) s (n + 1) → k43 r l2 l4 l6 l8 i10 i11 i12 i13 s (i15 + 3) = some 1) :
    ∃ w, X_isSuspended ob p = some w ∧ L_law_b165 NF z f k43 ob l2 l4 l6 l8 i10 i11 i12 i13 s i15 op p a w (f4 l2 l4 l6 l8 p) (f4 i10 i11 i12 i13 p) = some 1 := by
  have h' : GG ob (f4 l2 l4 l6 l8) (f4 i10 i11 i12 i13) s (n + 1) := GG_x h (by omega) (fun _ _ => rfl) (fun _ _ => rfl)
  by_cases c : p.toInt < 4
  · have hp4 : In 4 p := ⟨hp.1, c⟩
    have hp0 : In (gI ob 0).toInt p := by rw [h.cf.1]; exact hp4
    have n4 : ¬ p = 4 := fun e => by rw [e] at c; exact absurd c (by decide)
    refine ⟨gA ob 0 p, sus_e (by rw [h.cf.1]; decide) hp0 (h.fl p hp4), ?_⟩
    unfold L_law_b165
    by_cases c7 : op = 7
    · rw [if_pos c7, if_neg n4]
      obtain ⟨r, e, r4, r0, g⟩ := op_rl NF hNF h hn.1 hp4
      have fin : ∀ s', GG r (fun q => if q = p then 0 else f4 l2 l4 l6 l8 q) (fun q => if q = p then 0 else f4 i10 i11 i12 i13 q) s' n → L_law_b383 NF z f k43 r l2 l4 l6 l8 i10 i11 i12 i13 s' i15 p 0 0 0 = some 1 := by
        intro s' g
        unfold L_law_b383
        rw [if_pos rfl, sus_e (by rw [g.cf.1]; decide) (by rw [g.cf.1]; exact hp4) (g.fl p hp4), Option.bind_some, if_pos r0]
        exact b399_e NF z f k43 (n := n + 1) hNF 0 hp4 (GG_x g (by omega) (fun _ _ => rfl) (fun _ _ => rfl)) r4 hk
      unfold L_law_b185
      rw [e, bind2_some, if_pos rfl, if_pos rfl]
      by_cases d : gA ob 0 p = 0
      · rw [if_pos d] at g ⊢; exact fin s g
      · rw [if_neg d] at g ⊢; exact fin (s + 1) g
    · rw [if_neg c7, if_neg n4]
      have hP := h.cf
      by_cases c64 : a < 64
      · have ha64 : In 64 a := ⟨ha.1, lt_i.mp c64⟩
        have ck := ck_e h.pi (p := p) (a := a) hp0 (by rw [h.cf.2.1]; exact ha64)
        rw [if_pos c64]
        by_cases d : gA ob 0 p = 0
        · rw [if_pos d]; exact b253_0 NF z f k43 hNF hn.2 hp4 ha64 h d hk
        · rw [if_neg d] at ck ⊢; exact b253_n NF z f k43 hNF 3 (by decide) hp h' ck hk
      · have ck : X_check ob p a = some 2 := by
          unfold X_check
          rw [vpy hp0, Option.bind_some, if_neg (by decide), if_neg (nneg ha.1), h.cf.2.1, if_neg]
          show ¬ a < 64
          exact c64
        rw [if_neg c64]; exact b253_n NF z f k43 hNF 2 (by decide) hp h' ck hk
  · have p4 : p = 4 := eq_i32.mpr (by show p.toInt = 4; omega)
    have vp := ck4 (ob := ob) (p := p) (a := a) h.cf.1 c
    refine ⟨0, by unfold X_isSuspended; rw [vp, Option.bind_some, if_pos rfl], ?_⟩
    unfold L_law_b165
    by_cases c7 : op = 7
    · rw [if_pos c7, if_pos p4]
      unfold L_law_b185 X_release L_law_b383
      rw [vp, Option.bind_some, if_pos rfl, bind2_some, if_pos rfl, if_neg (by decide), if_neg (by decide)]
      exact b399_n NF z f k43 hNF 1 hp (GG_s h' 1) rfl hk
    · have ck : X_check ob p a = some 1 := by unfold X_check; rw [vp, Option.bind_some, if_pos rfl]
      rw [if_neg c7, if_pos p4]; exact b253_n NF z f k43 hNF 1 (by decide) hp h' ck hk
theorem b129_f (ob : Rec) (l2 l4 l6 l8 : Int64) (i10 i11 i12 i13 s i15 op p a w : Int32) (t : Int64) : L_law_b129 NF z f k43 ob l2 l4 l6 l8 i10 i11 i12 i13 s i15 op p a w t = L_law_b165 NF z f k43 ob l2 l4 l6 l8 i10 i11 i12 i13 s i15 op p a w t (f4 i10 i11 i12 i13 p) := by
  unfold L_law_b129 f4
  by_cases c0 : p = 0
  · simp only [if_pos c0]
  · simp only [if_neg c0]
    by_cases c1 : p = 1
    · simp only [if_pos c1]
    · simp only [if_neg c1]
      split <;> rfl
end law
theorem law_l (NF : Nat) (hNF : 70 < NF) (z : Int32) (f : Int32 → Int32) (hz : 0 ≤ z.toInt ∧ z.toInt ≤ 260) : ∀ (m fuel : Nat) (ob : Rec) (l2 l4 l6 l8 : Int64) (i10 i11 i12 i13 s i : Int32), m < fuel → GG ob (f4 l2 l4 l6 l8) (f4 i10 i11 i12 i13) s i.toInt → 0 ≤ i.toInt → i.toInt ≤ 300 → 300 - i.toInt ≤ m → L_law_l43 NF z f fuel ob l2 l4 l6 l8 i10 i11 i12 i13 s i = some 1 := by
  intro m
  induction m with
  | zero =>
    intro fuel ob l2 l4 l6 l8 i10 i11 i12 i13 s i hfu h h0 h1 h2
    obtain ⟨n, rfl⟩ : ∃ n, fuel = n + 1 := ⟨fuel - 1, by omega⟩
    have e3 : (i + 3).toInt = i.toInt + 3 := ad (by rw [t3]; omega)
    show L_law_w43 NF z f _ ob l2 l4 l6 l8 i10 i11 i12 i13 s i = _
    unfold L_law_w43; rw [if_pos (by rw [lt_i]; omega)]
  | succ m ih =>
    intro fuel ob l2 l4 l6 l8 i10 i11 i12 i13 s i hfu h h0 h1 h2
    obtain ⟨n, rfl⟩ : ∃ n, fuel = n + 1 := ⟨fuel - 1, by omega⟩
    have e3 : (i + 3).toInt = i.toInt + 3 := ad (by rw [t3]; omega)
    have e1 := s1 (i := i) (by omega)
    have e2 : (i + 2).toInt = i.toInt + 2 := ad (by show -2147483648 ≤ i.toInt + 2 ∧ i.toInt + 2 < 2147483648; omega)
    show L_law_w43 NF z f (L_law_l43 NF z f n) ob l2 l4 l6 l8 i10 i11 i12 i13 s i = _
    unfold L_law_w43
    by_cases c : z < i + 3
    · rw [if_pos c]
    · have c' : ¬ z.toInt < i.toInt + 3 := by rw [lt_i, e3] at c; exact c
      rw [if_neg c, chk_ok ⟨h0, by omega⟩, chk_ok ⟨by omega, by omega⟩, chk_ok ⟨by omega, by omega⟩]
      have b1 := and_b (f (i + 1)) 2147483647 2147483647 rfl (by omega)
      have b2 := and_b (f (i + 2)) 2147483647 2147483647 rfl (by omega)
      have m1 : (((f (i + 1)) &&& 2147483647) % 5).toInt = ((f (i + 1)) &&& 2147483647).toInt % 5 := md (y := 5) b1.1 (by decide)
      have m2 : (((f (i + 2)) &&& 2147483647) % 66).toInt = ((f (i + 2)) &&& 2147483647).toInt % 66 := md (y := 66) b2.1 (by decide)
      have hp : In 5 (((f (i + 1)) &&& 2147483647) % 5) := by rw [In, m1]; omega
      have ha : In 66 (((f (i + 2)) &&& 2147483647) % 66) := by rw [In, m2]; omega
      generalize ((f (i + 1)) &&& 2147483647) % 5 = p at hp ⊢
      generalize ((f (i + 2)) &&& 2147483647) % 66 = a at ha ⊢
      obtain ⟨w, ew, e⟩ := b165_e NF z f (L_law_l43 NF z f n) (i15 := i) (op := f i &&& 7) hNF (by omega) hp ha h (fun r l2 l4 l6 l8 i10 i11 i12 i13 s g => ih n r l2 l4 l6 l8 i10 i11 i12 i13 s (i + 3) (by omega) (GG_x g (by omega) (fun _ _ => rfl) (fun _ _ => rfl)) (by omega) (by omega) (by omega))
      rw [ew, Option.bind_some, ← e]
      simp only [b129_f]
      unfold f4
      by_cases c0 : p = 0
      · simp only [if_pos c0]
      · simp only [if_neg c0]
        by_cases c1 : p = 1
        · simp only [if_pos c1]
        · simp only [if_neg c1]
          by_cases c2 : p = 2
          · simp only [if_pos c2]
          · simp only [if_neg c2]
theorem owed : ∀ (z : Int32) (f : Int32 → Int32), ¬ z < 0 → z ≤ 260 → ∃ NF, L_law NF z f = some 1 := by
  intro z f h0 h1
  refine ⟨400, ?_⟩
  have h1' : z.toInt ≤ 260 := le_i.mp h1
  obtain ⟨Q, e, ⟨q0, q1, q2, q3, q4'⟩, qA, qp, qc⟩ := ini 400 (by omega) (P := 4) (N := 16) (F := 6) (T := 3) (by decide) (by decide) (by decide) (by decide)
  unfold L_law
  rw [e, Option.bind_some]
  refine law_l 400 (by omega) z f ⟨nneg' h0, h1'⟩ 300 400 Q 0 0 0 0 0 0 0 0 0 0 (by omega) ⟨qp, ⟨q0, q1, q2, q3⟩, fun q _ => Or.inl (qA 0 q (by omega)), ?_, fun q hq => ⟨?_, ?_, ?_, ?_, ?_⟩⟩ (by decide) (by decide) (by decide)
  · unfold sc; rw [q4' 5 (by omega), q4' 6 (by omega), qA 0 0 (by omega), qA 0 1 (by omega), qA 0 2 (by omega), qA 0 3 (by omega)]; decide
  · exact WI_0 (by rw [q3]; decide) (fun k _ hk => qA k q (by omega)) (fun j _ => by rw [qA 6 _ (by omega)]; decide) (fun k j _ hk _ => qA k _ hk)
  · rw [qA 1 q (by omega)]; rcases q4 hq with rfl | rfl | rfl | rfl <;> rfl
  · rcases q4 hq with rfl | rfl | rfl | rfl <;> decide
  · intro a ha
    obtain ⟨x1, x2, x3⟩ := pq hq ha
    have : f4 (0 : Int64) 0 0 0 q = 0 := by unfold f4; split <;> (try rfl); split <;> (try rfl); split <;> rfl
    rw [qc _ _ x3, this, if_neg]
    show ¬ (0#64).getLsbD _ = true
    simp
  · intro a ha
    have : f4 (0 : Int64) 0 0 0 q = 0 := by unfold f4; split <;> (try rfl); split <;> (try rfl); split <;> rfl
    rw [this]
    intro e
    have z : bt 0 a.toInt.toNat = false := by
      show (0#64).getLsbD _ = false
      simp
    rw [z] at e; exact absurd e (by decide)
-- owed : ∀ (z : Int32) (f : Int32 → Int32), ¬ z < 0 → z ≤ 260 → ∃ NF, L_law NF z f = some 1
--COMES--
set_option maxRecDepth 65536 in
set_option maxHeartbeats 4000000 in
theorem comes_1 {Post : Tables → Env → Array Value → State → Outcome → State → Prop} (hpost : ∀ tb e args s v u, (limb_1_1.after args s (.returned v) u = true ∧ limb_1_2.after args s (.returned v) u = true ∧ True) → FrameEnd s (.returned v) u (Jvm.fieldLocs frame_1_writes args s ++ Jvm.arrayLocs frame_1_arrays args s ++ Jvm.staticLocs frame_1_statics s) 48 2048 → Post tb e args s (.returned v) u) :
    ArmFor flags0 classFile x code maxLocals ret World_1 tables_1 room_1 Calls_1 rest_1 Pre_1 Post := by
  intro l hfl _ _ p e ha hc hk s m args below hf hA hF happ hP
  obtain ⟨hcalls, hrest, hpre⟩ := hP
  obtain ⟨-, -, -, hnamed, -, -, -, hat⟩ := (Spec.applies_iff hf).mp happ
  obtain ⟨hg, hn⟩ := and_e (Cond.before_iff.mp (show (Jvm.Cond.and given_1 narrow_1).before args s = true from hpre))
  obtain ⟨hcnt, hg⟩ := and_e hg
  obtain ⟨w0, rfl⟩ : ∃ w0 : Value, args = #[w0] := by
    have hs : args.size = 1 := by simpa [Cond.value, given_1] using hcnt
    obtain ⟨L⟩ := args
    match L, hs with
    | [w0], _ => exact ⟨w0, rfl⟩
  have hw := fun d (hd : d ∈ tables_1) => atoms_spec (ws := Jvm.Cond.code x code maxLocals ret :: tables_1) hat d (List.mem_cons_of_mem _ hd)
  have hfit : Fit s := fun {y c} hc i hi => by
    obtain ⟨ha, rfl⟩ := Array.getElem?_eq_some_iff.mp hc
    have q := List.all_eq_true.mp ((Array.all_eq_true_iff_forall_mem.mp hF) _ (Array.getElem_mem ha)) i (List.mem_range.mpr hi)
    simpa [Array.getElem?_eq_getElem hi] using q
  obtain ⟨n1, n2⟩ := and_e hn
  obtain ⟨sa, ev⟩ := arr_v n1
  obtain rfl : w0 = .ref sa := Option.some.inj ev
  obtain ⟨cl, A⟩ := Arr.start ev n1
  have hsz : cl.slots.size < 2 ^ 31 := by
    rcases Nat.lt_or_ge cl.slots.size (2 ^ 31) with q | q
    · exact q
    · have u : (Term.length (.arg 0)).eval #[.ref sa] s none [] s = none := by
        have v : s.arrayAt? sa = some cl := A.fin (Vm.Alike.refl _)
        have e' : ¬ cl.slots.size < 2 ^ 31 := by omega
        simp only [Term.eval] at ev ⊢
        simp [v, e']
      simp [Cond.value, u] at n2
  obtain ⟨z, hz, F⟩ := Scr.start hfit A hsz
  have hle : z ≤ 260 := by
    have u := len_f (t := .arg 0) (args := #[.ref sa]) (first := s) (o := none) (idx := []) ev (A.fin (Vm.Alike.refl _)) hsz
    rw [hz]; first | (simp only [Cond.value, u] at n2; simpa [Term.eval] using n2) | (simp [Cond.value, u, Term.int_eval] at n2; exact n2) | (simp [Cond.value, u, Term.int_eval] at n2; simpa using n2)
  obtain ⟨NF, hlaw⟩ := owed z (atv cl) F.2.2.1 hle
  have hp := L_law_pay (C := (l, s, s.heap.size, #[.ref sa])) (⟨cl, F, rfl⟩ : ScrF (l, s, s.heap.size, #[.ref sa]) sa z (atv cl)) hlaw hw s.heap (Rep.start s) tables_1
  obtain ⟨n, o, h1, h2, h3, v, L, rfl, ⟨N, G', -, rfl⟩, hq⟩ := hp p e ha hc hk s m _ below hf ((Spec.applies_iff_loose hf).mp happ).1 ⟨rfl, State.Warmed39.refl s, rfl⟩ trivial
  refine ⟨n, _, h1, h2, h3, hpost _ _ _ _ _ _ ⟨Cond.after_iff.mpr rfl, Cond.after_iff.mpr (eq_i res_at (Term.int_eval (1)) rfl), trivial⟩ ⟨hq.1, hq.2.1, (hq.2.2.sift fun y hy => Or.inr (N y hy)).mono (by decide) (by decide)⟩⟩
theorem main_1_1 : Claimed_1_1 := comes_1 fun _ _ _ _ _ _ h hF => ⟨h.1, hF⟩
theorem main_1_2 : Claimed_1_2 := comes_1 fun _ _ _ _ _ _ h hF => ⟨h.2.1, hF⟩
end Jvm.Pilot.@@N@@
namespace Jvm.Pilot.@@N@@
open Jvm Jvm.ClassFile Sem Op Lib Jvm.Free Jvm.Stand Jvm.Pilot.@@N@@.Jvm.D
/-! MADE BY PROGRAM (witnessworld.py) out of the Statement's table words and the real class files: 11 classes; the members and pool entries that the words name. The judged class is class 1, her method 3. -/
namespace start1
open Jvm.ClassFile
def u (s : String) : CpInfo := .utf8 (stringToUtf16 s)
/-- a pool by its gaps: so many unusable entries, then the entry; so many at the end -/
def gap : Nat → List CpInfo → List CpInfo
  | 0, r => r
  | n + 1, r => .unusable :: gap n r
def poolList (es : List (Nat × CpInfo)) (last : Nat) : List CpInfo := es.foldr (fun e r => gap e.1 (e.2 :: r)) (gap last [])
def pool (es : List (Nat × CpInfo)) (last : Nat) : Array CpInfo := ⟨poolList es last⟩
def fileOf (pool : Array CpInfo) (this : Nat) (attrs : Array Attribute := #[]) (ms : Array MethodInfo := #[]) (fl : Nat := 33) (sup : Nat := 0) (ifs : Array Nat := #[]) (fds : Array FieldInfo := #[]) : ClassFile where
  minorVersion := 0
  majorVersion := 65
  constantPool := pool
  accessFlags := fl
  thisClass := this
  superClass := sup
  interfaces := ifs
  fields := fds
  methods := ms
  attributes := attrs
def plain (name : String) (sup : Option ClassId) : Class where
  name := name
  kind := .ordinary
  loader := none
  accessFlags := 33
  super := sup
  interfaces := #[]
  cf := none
  fields := #[]
  methods := #[]
  instanceTypes := #[]
  staticTypes := #[]
  resolved := #[]
  callSites := []
  init := .initialized
  statics := none
  mirror := none

def pool0 : Array CpInfo := pool [(5, u "<init>"), (0, u "()V"), (1, .class_ 10), (1, u "java/lang/Object")] 113

def k0c0 : Code := { maxStack := 0, maxLocals := 1, code := object_method_1_code, exceptionTable := #[], attributes := #[] }
def k0m0 : Method := { name := "<init>", desc := "()V", sig := { parameters := [], returnType := none }, accessFlags := 1, code := some k0c0 }
/-- java/lang/Object -/
def k0 : Class := { plain "java/lang/Object" none with
  accessFlags := 33
  interfaces := #[]
  cf := some (fileOf pool0 8 #[] #[{ accessFlags := 1, nameIndex := 5, descriptorIndex := 6, attributes := #[] }] 33 0 #[] #[])
  fields := #[]
  methods := #[k0m0]
  instanceTypes := #[]
  staticTypes := #[]
  resolved := Array.replicate 124 none
  statics := none }

def pool1 : Array CpInfo := pool [(2, .class_ 4), (1, u "java/lang/Object"), (0, u "<init>"), (0, u "()V"), (0, .methodref 8 9), (0, .class_ 10), (0, .nameAndType 11 12), (0, u "WsClockPagerL6"), (0, u "val"), (0, u "(II)I"), (0, .long 15), (1, .methodref 16 17), (0, .class_ 18), (0, .nameAndType 19 20), (0, u "WsClockPager"), (0, u "workingSetSize"), (0, u "(I)I"), (0, .methodref 16 22), (0, .nameAndType 23 20), (0, u "touchedPages"), (0, .methodref 16 25), (0, .nameAndType 26 20), (0, u "virtualTime"), (0, .methodref 16 28), (0, .nameAndType 29 20), (0, u "memorySum"), (0, .methodref 16 31), (0, .nameAndType 5 32), (0, u "(IIII)V"), (0, .integer 2147483647), (0, .methodref 16 35), (0, .nameAndType 36 37), (0, u "isSuspended"), (0, u "(I)Z"), (0, .methodref 16 39), (0, .nameAndType 40 20), (0, u "release"), (0, .methodref 16 42), (0, .nameAndType 43 44), (0, u "load"), (0, u "(II)J"), (0, .long 9223372036854775808), (1, .methodref 16 48), (0, .nameAndType 49 50), (0, u "store"), (0, u "(III)I"), (0, .methodref 16 52), (0, .nameAndType 53 54), (0, u "inWorkingSet"), (0, u "(II)Z"), (0, .methodref 16 56), (0, .nameAndType 57 58), (0, u "lastStatus"), (0, u "()I"), (0, .methodref 16 60), (0, .nameAndType 61 58), (0, u "activeTotal"), (0, .methodref 16 63), (0, .nameAndType 64 58), (0, u "suspensions"), (0, .methodref 16 66), (0, .nameAndType 67 58), (0, u "readmissions"), (0, .methodref 8 69), (0, .nameAndType 70 71), (0, u "proc"), (0, u "(LWsClockPager;IIJ)Z"), (3, u "law"), (0, u "([I)Z")] 4

def k1m0 : Method := { name := "<init>", desc := "()V", sig := { parameters := [], returnType := none }, accessFlags := 1, code := none }
def k1c1 : Code := { maxStack := 2, maxLocals := 2, code := method_2_code, exceptionTable := #[], attributes := #[] }
def k1m1 : Method := { name := "val", desc := "(II)I", sig := { parameters := [.int, .int], returnType := some .int }, accessFlags := 10, code := some k1c1 }
def k1c2 : Code := { maxStack := 4, maxLocals := 9, code := method_3_code, exceptionTable := #[], attributes := #[] }
def k1m2 : Method := { name := "proc", desc := "(LWsClockPager;IIJ)Z", sig := { parameters := [(.object "WsClockPager"), .int, .int, .long], returnType := some .boolean }, accessFlags := 10, code := some k1c2 }
def k1c3 : Code := { maxStack := 6, maxLocals := 28, code := code, exceptionTable := #[], attributes := #[] }
def k1m3 : Method := { name := "law", desc := "([I)Z", sig := { parameters := [(.array .int)], returnType := some .boolean }, accessFlags := 9, code := some k1c3 }
/-- WsClockPagerL6 -/
def k1 : Class := { plain "WsClockPagerL6" (some 0) with
  accessFlags := 33
  interfaces := #[]
  cf := some (fileOf pool1 8 #[] #[{ accessFlags := 1, nameIndex := 5, descriptorIndex := 6, attributes := #[] }, { accessFlags := 10, nameIndex := 11, descriptorIndex := 12, attributes := #[] }, { accessFlags := 10, nameIndex := 70, descriptorIndex := 71, attributes := #[] }, { accessFlags := 9, nameIndex := 75, descriptorIndex := 76, attributes := #[] }] 33 2 #[] #[])
  fields := #[]
  methods := #[k1m0, k1m1, k1m2, k1m3]
  instanceTypes := #[]
  staticTypes := #[]
  resolved := Array.replicate 81 none
  statics := none }

def pool2 : Array CpInfo := pool [(1, .methodref 2 3), (0, .class_ 4), (0, .nameAndType 5 6), (0, u "java/lang/Object"), (0, u "<init>"), (0, u "()V"), (0, .fieldref 8 9), (0, .class_ 10), (0, .nameAndType 11 12), (0, u "WsClockPager"), (0, u "suspended"), (0, u "[Z"), (0, .fieldref 8 14), (0, .nameAndType 15 16), (0, u "vtime"), (0, u "[I"), (0, .fieldref 8 18), (0, .nameAndType 19 16), (0, u "winLen"), (0, .fieldref 8 21), (0, .nameAndType 22 16), (0, u "winHead"), (0, .fieldref 8 24), (0, .nameAndType 25 16), (0, u "wsSize"), (0, .fieldref 8 27), (0, .nameAndType 28 16), (0, u "touchedCount"), (0, .fieldref 8 30), (0, .nameAndType 31 16), (0, u "ring"), (0, .fieldref 8 33), (0, .nameAndType 34 16), (0, u "winCount"), (0, .fieldref 8 36), (0, .nameAndType 37 12), (0, u "touched"), (0, .fieldref 8 39), (0, .nameAndType 40 16), (0, u "pageFrame"), (0, .fieldref 8 42), (0, .nameAndType 43 16), (0, u "pageSlot"), (0, .fieldref 8 45), (0, .nameAndType 46 16), (0, u "pageLastUse"), (0, .fieldref 8 48), (0, .nameAndType 49 16), (0, u "frameOwner"), (0, .fieldref 8 51), (0, .nameAndType 52 12), (0, u "frameRef"), (0, .fieldref 8 54), (0, .nameAndType 55 12), (0, u "frameDirty"), (0, .fieldref 8 57), (0, .nameAndType 58 16), (0, u "frameWords"), (0, .fieldref 8 60), (0, .nameAndType 61 12), (0, u "slotUsed"), (0, .fieldref 8 63), (0, .nameAndType 64 16), (0, u "swapWords"), (0, .methodref 8 66), (0, .nameAndType 67 68), (0, u "clamp"), (0, u "(III)I"), (0, .fieldref 8 70), (0, .nameAndType 71 72), (0, u "procs"), (0, u "I"), (0, .fieldref 8 74), (0, .nameAndType 75 72), (0, u "pages"), (0, .fieldref 8 77), (0, .nameAndType 78 72), (0, u "frames"), (0, .fieldref 8 80), (0, .nameAndType 81 72), (0, u "tau"), (0, .fieldref 8 83), (0, .nameAndType 84 72), (0, u "status"), (0, .fieldref 8 86), (0, .nameAndType 87 72), (0, u "suspensionCount"), (0, .fieldref 8 89), (0, .nameAndType 90 72), (0, u "readmissionCount"), (0, .fieldref 8 92), (0, .nameAndType 93 72), (0, u "hand"), (0, .methodref 8 95), (0, .nameAndType 96 97), (0, u "check"), (0, u "(II)I"), (0, .long 9223372036854775808), (1, .methodref 8 101), (0, .nameAndType 102 97), (0, u "ensureResident"), (0, .methodref 8 104), (0, .nameAndType 105 106), (0, u "recordReference"), (0, u "(II)V"), (0, .methodref 8 108), (0, .nameAndType 109 110), (0, u "loadControl"), (0, u "(I)V"), (0, .methodref 8 112), (0, .nameAndType 113 114), (0, u "validPid"), (0, u "(I)Z"), (0, .methodref 8 116), (0, .nameAndType 117 110), (0, u "discardPage"), (0, .methodref 8 119), (0, .nameAndType 120 97), (0, u "readWord"), (0, .methodref 8 122), (0, .nameAndType 123 106), (0, u "pushWindow"), (0, .methodref 8 125), (0, .nameAndType 126 127), (0, u "activeTotal"), (0, u "()I"), (0, .methodref 8 129), (0, .nameAndType 130 131), (0, u "pickProcessToSuspend"), (0, u "(I)I"), (0, .methodref 8 133), (0, .nameAndType 134 127), (0, u "findFreeFrame"), (0, .methodref 8 136), (0, .nameAndType 137 127), (0, u "chooseVictim"), (0, .methodref 8 139), (0, .nameAndType 140 110), (0, u "evictFrame"), (0, .methodref 8 142), (0, .nameAndType 143 106), (0, u "fillFrame"), (0, .methodref 8 145), (0, .nameAndType 146 110), (0, u "writeBack"), (0, .methodref 8 148), (0, .nameAndType 149 127), (0, u "allocSlot"), (0, u "PAGE_WORDS"), (2, u "OK"), (1, u "BAD_PID"), (1, u "BAD_ADDR"), (1, u "SUSPENDED"), (1, u "REFUSED"), (0, u "J"), (0, u "CFG_PROCS"), (0, u "CFG_PAGES"), (0, u "CFG_FRAMES"), (0, u "CFG_TAU"), (0, u "(IIII)V"), (3, u "load"), (0, u "(II)J"), (0, u "store"), (0, u "release"), (0, u "lastStatus"), (0, u "isSuspended"), (0, u "virtualTime"), (0, u "workingSetSize"), (0, u "inWorkingSet"), (0, u "(II)Z"), (0, u "suspensions"), (0, u "readmissions"), (0, u "touchedPages"), (0, u "memorySum")] 3

def k2c0 : Code := { maxStack := 5, maxLocals := 6, code := prog_1_method_1_code, exceptionTable := #[], attributes := #[] }
def k2m0 : Method := { name := "<init>", desc := "(IIII)V", sig := { parameters := [.int, .int, .int, .int], returnType := none }, accessFlags := 1, code := some k2c0 }
def k2c1 : Code := { maxStack := 4, maxLocals := 7, code := prog_1_method_2_code, exceptionTable := #[], attributes := #[] }
def k2m1 : Method := { name := "load", desc := "(II)J", sig := { parameters := [.int, .int], returnType := some .long }, accessFlags := 1, code := some k2c1 }
def k2c2 : Code := { maxStack := 4, maxLocals := 7, code := prog_1_method_3_code, exceptionTable := #[], attributes := #[] }
def k2m2 : Method := { name := "store", desc := "(III)I", sig := { parameters := [.int, .int, .int], returnType := some .int }, accessFlags := 1, code := some k2c2 }
def k2c3 : Code := { maxStack := 3, maxLocals := 3, code := prog_1_method_4_code, exceptionTable := #[], attributes := #[] }
def k2m3 : Method := { name := "release", desc := "(I)I", sig := { parameters := [.int], returnType := some .int }, accessFlags := 1, code := some k2c3 }
def k2c4 : Code := { maxStack := 1, maxLocals := 1, code := prog_1_method_5_code, exceptionTable := #[], attributes := #[] }
def k2m4 : Method := { name := "lastStatus", desc := "()I", sig := { parameters := [], returnType := some .int }, accessFlags := 1, code := some k2c4 }
def k2c5 : Code := { maxStack := 2, maxLocals := 2, code := prog_1_method_6_code, exceptionTable := #[], attributes := #[] }
def k2m5 : Method := { name := "isSuspended", desc := "(I)Z", sig := { parameters := [.int], returnType := some .boolean }, accessFlags := 1, code := some k2c5 }
def k2c6 : Code := { maxStack := 2, maxLocals := 2, code := prog_1_method_7_code, exceptionTable := #[], attributes := #[] }
def k2m6 : Method := { name := "virtualTime", desc := "(I)I", sig := { parameters := [.int], returnType := some .int }, accessFlags := 1, code := some k2c6 }
def k2c7 : Code := { maxStack := 2, maxLocals := 2, code := prog_1_method_8_code, exceptionTable := #[], attributes := #[] }
def k2m7 : Method := { name := "workingSetSize", desc := "(I)I", sig := { parameters := [.int], returnType := some .int }, accessFlags := 1, code := some k2c7 }
def k2c8 : Code := { maxStack := 3, maxLocals := 3, code := prog_1_method_9_code, exceptionTable := #[], attributes := #[] }
def k2m8 : Method := { name := "inWorkingSet", desc := "(II)Z", sig := { parameters := [.int, .int], returnType := some .boolean }, accessFlags := 1, code := some k2c8 }
def k2c9 : Code := { maxStack := 3, maxLocals := 3, code := prog_1_method_10_code, exceptionTable := #[], attributes := #[] }
def k2m9 : Method := { name := "activeTotal", desc := "()I", sig := { parameters := [], returnType := some .int }, accessFlags := 1, code := some k2c9 }
def k2c10 : Code := { maxStack := 1, maxLocals := 1, code := prog_1_method_11_code, exceptionTable := #[], attributes := #[] }
def k2m10 : Method := { name := "suspensions", desc := "()I", sig := { parameters := [], returnType := some .int }, accessFlags := 1, code := some k2c10 }
def k2c11 : Code := { maxStack := 1, maxLocals := 1, code := prog_1_method_12_code, exceptionTable := #[], attributes := #[] }
def k2m11 : Method := { name := "readmissions", desc := "()I", sig := { parameters := [], returnType := some .int }, accessFlags := 1, code := some k2c11 }
def k2c12 : Code := { maxStack := 2, maxLocals := 2, code := prog_1_method_13_code, exceptionTable := #[], attributes := #[] }
def k2m12 : Method := { name := "touchedPages", desc := "(I)I", sig := { parameters := [.int], returnType := some .int }, accessFlags := 1, code := some k2c12 }
def k2c13 : Code := { maxStack := 4, maxLocals := 6, code := prog_1_method_14_code, exceptionTable := #[], attributes := #[] }
def k2m13 : Method := { name := "memorySum", desc := "(I)I", sig := { parameters := [.int], returnType := some .int }, accessFlags := 1, code := some k2c13 }
def k2c14 : Code := { maxStack := 2, maxLocals := 4, code := prog_1_method_16_code, exceptionTable := #[], attributes := #[] }
def k2m14 : Method := { name := "clamp", desc := "(III)I", sig := { parameters := [.int, .int, .int], returnType := some .int }, accessFlags := 2, code := some k2c14 }
def k2c15 : Code := { maxStack := 2, maxLocals := 2, code := prog_1_method_17_code, exceptionTable := #[], attributes := #[] }
def k2m15 : Method := { name := "validPid", desc := "(I)Z", sig := { parameters := [.int], returnType := some .boolean }, accessFlags := 2, code := some k2c15 }
def k2c16 : Code := { maxStack := 3, maxLocals := 3, code := prog_1_method_18_code, exceptionTable := #[], attributes := #[] }
def k2m16 : Method := { name := "check", desc := "(II)I", sig := { parameters := [.int, .int], returnType := some .int }, accessFlags := 2, code := some k2c16 }
def k2c17 : Code := { maxStack := 3, maxLocals := 5, code := prog_1_method_19_code, exceptionTable := #[], attributes := #[] }
def k2m17 : Method := { name := "readWord", desc := "(II)I", sig := { parameters := [.int, .int], returnType := some .int }, accessFlags := 2, code := some k2c17 }
def k2c18 : Code := { maxStack := 3, maxLocals := 4, code := prog_1_method_20_code, exceptionTable := #[], attributes := #[] }
def k2m18 : Method := { name := "discardPage", desc := "(I)V", sig := { parameters := [.int], returnType := none }, accessFlags := 2, code := some k2c18 }
def k2c19 : Code := { maxStack := 4, maxLocals := 5, code := prog_1_method_21_code, exceptionTable := #[], attributes := #[] }
def k2m19 : Method := { name := "recordReference", desc := "(II)V", sig := { parameters := [.int, .int], returnType := none }, accessFlags := 2, code := some k2c19 }
def k2c20 : Code := { maxStack := 5, maxLocals := 6, code := prog_1_method_22_code, exceptionTable := #[], attributes := #[] }
def k2m20 : Method := { name := "pushWindow", desc := "(II)V", sig := { parameters := [.int, .int], returnType := none }, accessFlags := 2, code := some k2c20 }
def k2c21 : Code := { maxStack := 3, maxLocals := 5, code := prog_1_method_23_code, exceptionTable := #[], attributes := #[] }
def k2m21 : Method := { name := "loadControl", desc := "(I)V", sig := { parameters := [.int], returnType := none }, accessFlags := 2, code := some k2c21 }
def k2c22 : Code := { maxStack := 2, maxLocals := 3, code := prog_1_method_24_code, exceptionTable := #[], attributes := #[] }
def k2m22 : Method := { name := "pickProcessToSuspend", desc := "(I)I", sig := { parameters := [.int], returnType := some .int }, accessFlags := 2, code := some k2c22 }
def k2c23 : Code := { maxStack := 3, maxLocals := 5, code := prog_1_method_25_code, exceptionTable := #[], attributes := #[] }
def k2m23 : Method := { name := "ensureResident", desc := "(II)I", sig := { parameters := [.int, .int], returnType := some .int }, accessFlags := 2, code := some k2c23 }
def k2c24 : Code := { maxStack := 2, maxLocals := 2, code := prog_1_method_26_code, exceptionTable := #[], attributes := #[] }
def k2m24 : Method := { name := "findFreeFrame", desc := "()I", sig := { parameters := [], returnType := some .int }, accessFlags := 2, code := some k2c24 }
def k2c25 : Code := { maxStack := 5, maxLocals := 6, code := prog_1_method_27_code, exceptionTable := #[], attributes := #[] }
def k2m25 : Method := { name := "fillFrame", desc := "(II)V", sig := { parameters := [.int, .int], returnType := none }, accessFlags := 2, code := some k2c25 }
def k2c26 : Code := { maxStack := 4, maxLocals := 7, code := prog_1_method_28_code, exceptionTable := #[], attributes := #[] }
def k2m26 : Method := { name := "chooseVictim", desc := "()I", sig := { parameters := [], returnType := some .int }, accessFlags := 2, code := some k2c26 }
def k2c27 : Code := { maxStack := 3, maxLocals := 3, code := prog_1_method_29_code, exceptionTable := #[], attributes := #[] }
def k2m27 : Method := { name := "evictFrame", desc := "(I)V", sig := { parameters := [.int], returnType := none }, accessFlags := 2, code := some k2c27 }
def k2c28 : Code := { maxStack := 5, maxLocals := 5, code := prog_1_method_30_code, exceptionTable := #[], attributes := #[] }
def k2m28 : Method := { name := "writeBack", desc := "(I)V", sig := { parameters := [.int], returnType := none }, accessFlags := 2, code := some k2c28 }
def k2c29 : Code := { maxStack := 2, maxLocals := 3, code := prog_1_method_31_code, exceptionTable := #[], attributes := #[] }
def k2m29 : Method := { name := "allocSlot", desc := "()I", sig := { parameters := [], returnType := some .int }, accessFlags := 2, code := some k2c29 }
/-- WsClockPager -/
def k2 : Class := { plain "WsClockPager" (some 0) with
  accessFlags := 49
  interfaces := #[]
  cf := some (fileOf pool2 8 #[] #[{ accessFlags := 1, nameIndex := 5, descriptorIndex := 167, attributes := #[] }, { accessFlags := 1, nameIndex := 171, descriptorIndex := 172, attributes := #[] }, { accessFlags := 1, nameIndex := 173, descriptorIndex := 68, attributes := #[] }, { accessFlags := 1, nameIndex := 174, descriptorIndex := 131, attributes := #[] }, { accessFlags := 1, nameIndex := 175, descriptorIndex := 127, attributes := #[] }, { accessFlags := 1, nameIndex := 176, descriptorIndex := 114, attributes := #[] }, { accessFlags := 1, nameIndex := 177, descriptorIndex := 131, attributes := #[] }, { accessFlags := 1, nameIndex := 178, descriptorIndex := 131, attributes := #[] }, { accessFlags := 1, nameIndex := 179, descriptorIndex := 180, attributes := #[] }, { accessFlags := 1, nameIndex := 126, descriptorIndex := 127, attributes := #[] }, { accessFlags := 1, nameIndex := 181, descriptorIndex := 127, attributes := #[] }, { accessFlags := 1, nameIndex := 182, descriptorIndex := 127, attributes := #[] }, { accessFlags := 1, nameIndex := 183, descriptorIndex := 131, attributes := #[] }, { accessFlags := 1, nameIndex := 184, descriptorIndex := 131, attributes := #[] }, { accessFlags := 2, nameIndex := 67, descriptorIndex := 68, attributes := #[] }, { accessFlags := 2, nameIndex := 113, descriptorIndex := 114, attributes := #[] }, { accessFlags := 2, nameIndex := 96, descriptorIndex := 97, attributes := #[] }, { accessFlags := 2, nameIndex := 120, descriptorIndex := 97, attributes := #[] }, { accessFlags := 2, nameIndex := 117, descriptorIndex := 110, attributes := #[] }, { accessFlags := 2, nameIndex := 105, descriptorIndex := 106, attributes := #[] }, { accessFlags := 2, nameIndex := 123, descriptorIndex := 106, attributes := #[] }, { accessFlags := 2, nameIndex := 109, descriptorIndex := 110, attributes := #[] }, { accessFlags := 2, nameIndex := 130, descriptorIndex := 131, attributes := #[] }, { accessFlags := 2, nameIndex := 102, descriptorIndex := 97, attributes := #[] }, { accessFlags := 2, nameIndex := 134, descriptorIndex := 127, attributes := #[] }, { accessFlags := 2, nameIndex := 143, descriptorIndex := 106, attributes := #[] }, { accessFlags := 2, nameIndex := 137, descriptorIndex := 127, attributes := #[] }, { accessFlags := 2, nameIndex := 140, descriptorIndex := 110, attributes := #[] }, { accessFlags := 2, nameIndex := 146, descriptorIndex := 110, attributes := #[] }, { accessFlags := 2, nameIndex := 149, descriptorIndex := 127, attributes := #[] }] 49 2 #[] #[{ accessFlags := 25, nameIndex := 150, descriptorIndex := 72, attributes := #[] }, { accessFlags := 25, nameIndex := 153, descriptorIndex := 72, attributes := #[] }, { accessFlags := 25, nameIndex := 155, descriptorIndex := 72, attributes := #[] }, { accessFlags := 25, nameIndex := 157, descriptorIndex := 72, attributes := #[] }, { accessFlags := 25, nameIndex := 159, descriptorIndex := 72, attributes := #[] }, { accessFlags := 25, nameIndex := 161, descriptorIndex := 162, attributes := #[] }, { accessFlags := 25, nameIndex := 163, descriptorIndex := 72, attributes := #[] }, { accessFlags := 25, nameIndex := 164, descriptorIndex := 72, attributes := #[] }, { accessFlags := 25, nameIndex := 165, descriptorIndex := 72, attributes := #[] }, { accessFlags := 25, nameIndex := 166, descriptorIndex := 72, attributes := #[] }, { accessFlags := 2, nameIndex := 71, descriptorIndex := 72, attributes := #[] }, { accessFlags := 2, nameIndex := 75, descriptorIndex := 72, attributes := #[] }, { accessFlags := 2, nameIndex := 78, descriptorIndex := 72, attributes := #[] }, { accessFlags := 2, nameIndex := 81, descriptorIndex := 72, attributes := #[] }, { accessFlags := 2, nameIndex := 84, descriptorIndex := 72, attributes := #[] }, { accessFlags := 2, nameIndex := 87, descriptorIndex := 72, attributes := #[] }, { accessFlags := 2, nameIndex := 90, descriptorIndex := 72, attributes := #[] }, { accessFlags := 2, nameIndex := 11, descriptorIndex := 12, attributes := #[] }, { accessFlags := 2, nameIndex := 15, descriptorIndex := 16, attributes := #[] }, { accessFlags := 2, nameIndex := 19, descriptorIndex := 16, attributes := #[] }, { accessFlags := 2, nameIndex := 22, descriptorIndex := 16, attributes := #[] }, { accessFlags := 2, nameIndex := 25, descriptorIndex := 16, attributes := #[] }, { accessFlags := 2, nameIndex := 28, descriptorIndex := 16, attributes := #[] }, { accessFlags := 2, nameIndex := 31, descriptorIndex := 16, attributes := #[] }, { accessFlags := 2, nameIndex := 34, descriptorIndex := 16, attributes := #[] }, { accessFlags := 2, nameIndex := 37, descriptorIndex := 12, attributes := #[] }, { accessFlags := 2, nameIndex := 40, descriptorIndex := 16, attributes := #[] }, { accessFlags := 2, nameIndex := 43, descriptorIndex := 16, attributes := #[] }, { accessFlags := 2, nameIndex := 46, descriptorIndex := 16, attributes := #[] }, { accessFlags := 2, nameIndex := 49, descriptorIndex := 16, attributes := #[] }, { accessFlags := 2, nameIndex := 52, descriptorIndex := 12, attributes := #[] }, { accessFlags := 2, nameIndex := 55, descriptorIndex := 12, attributes := #[] }, { accessFlags := 2, nameIndex := 58, descriptorIndex := 16, attributes := #[] }, { accessFlags := 2, nameIndex := 93, descriptorIndex := 72, attributes := #[] }, { accessFlags := 2, nameIndex := 61, descriptorIndex := 12, attributes := #[] }, { accessFlags := 2, nameIndex := 64, descriptorIndex := 16, attributes := #[] }])
  fields := #[{ name := "PAGE_WORDS", type := .int, accessFlags := 25, slot := 0, constantValue := 0 }, { name := "OK", type := .int, accessFlags := 25, slot := 1, constantValue := 0 }, { name := "BAD_PID", type := .int, accessFlags := 25, slot := 2, constantValue := 0 }, { name := "BAD_ADDR", type := .int, accessFlags := 25, slot := 3, constantValue := 0 }, { name := "SUSPENDED", type := .int, accessFlags := 25, slot := 4, constantValue := 0 }, { name := "REFUSED", type := .long, accessFlags := 25, slot := 5, constantValue := 0 }, { name := "CFG_PROCS", type := .int, accessFlags := 25, slot := 6, constantValue := 0 }, { name := "CFG_PAGES", type := .int, accessFlags := 25, slot := 7, constantValue := 0 }, { name := "CFG_FRAMES", type := .int, accessFlags := 25, slot := 8, constantValue := 0 }, { name := "CFG_TAU", type := .int, accessFlags := 25, slot := 9, constantValue := 0 }, { name := "procs", type := .int, accessFlags := 2, slot := 0, constantValue := 0 }, { name := "pages", type := .int, accessFlags := 2, slot := 1, constantValue := 0 }, { name := "frames", type := .int, accessFlags := 2, slot := 2, constantValue := 0 }, { name := "tau", type := .int, accessFlags := 2, slot := 3, constantValue := 0 }, { name := "status", type := .int, accessFlags := 2, slot := 4, constantValue := 0 }, { name := "suspensionCount", type := .int, accessFlags := 2, slot := 5, constantValue := 0 }, { name := "readmissionCount", type := .int, accessFlags := 2, slot := 6, constantValue := 0 }, { name := "suspended", type := (.array .boolean), accessFlags := 2, slot := 7, constantValue := 0 }, { name := "vtime", type := (.array .int), accessFlags := 2, slot := 8, constantValue := 0 }, { name := "winLen", type := (.array .int), accessFlags := 2, slot := 9, constantValue := 0 }, { name := "winHead", type := (.array .int), accessFlags := 2, slot := 10, constantValue := 0 }, { name := "wsSize", type := (.array .int), accessFlags := 2, slot := 11, constantValue := 0 }, { name := "touchedCount", type := (.array .int), accessFlags := 2, slot := 12, constantValue := 0 }, { name := "ring", type := (.array .int), accessFlags := 2, slot := 13, constantValue := 0 }, { name := "winCount", type := (.array .int), accessFlags := 2, slot := 14, constantValue := 0 }, { name := "touched", type := (.array .boolean), accessFlags := 2, slot := 15, constantValue := 0 }, { name := "pageFrame", type := (.array .int), accessFlags := 2, slot := 16, constantValue := 0 }, { name := "pageSlot", type := (.array .int), accessFlags := 2, slot := 17, constantValue := 0 }, { name := "pageLastUse", type := (.array .int), accessFlags := 2, slot := 18, constantValue := 0 }, { name := "frameOwner", type := (.array .int), accessFlags := 2, slot := 19, constantValue := 0 }, { name := "frameRef", type := (.array .boolean), accessFlags := 2, slot := 20, constantValue := 0 }, { name := "frameDirty", type := (.array .boolean), accessFlags := 2, slot := 21, constantValue := 0 }, { name := "frameWords", type := (.array .int), accessFlags := 2, slot := 22, constantValue := 0 }, { name := "hand", type := .int, accessFlags := 2, slot := 23, constantValue := 0 }, { name := "slotUsed", type := (.array .boolean), accessFlags := 2, slot := 24, constantValue := 0 }, { name := "swapWords", type := (.array .int), accessFlags := 2, slot := 25, constantValue := 0 }]
  methods := #[k2m0, k2m1, k2m2, k2m3, k2m4, k2m5, k2m6, k2m7, k2m8, k2m9, k2m10, k2m11, k2m12, k2m13, k2m14, k2m15, k2m16, k2m17, k2m18, k2m19, k2m20, k2m21, k2m22, k2m23, k2m24, k2m25, k2m26, k2m27, k2m28, k2m29]
  instanceTypes := #[.int, .int, .int, .int, .int, .int, .int, (.array .boolean), (.array .int), (.array .int), (.array .int), (.array .int), (.array .int), (.array .int), (.array .int), (.array .boolean), (.array .int), (.array .int), (.array .int), (.array .int), (.array .boolean), (.array .boolean), (.array .int), .int, (.array .boolean), (.array .int)]
  staticTypes := #[.int, .int, .int, .int, .int, .long, .int, .int, .int, .int]
  resolved := Array.replicate 188 none
  statics := none }

def pool3 : Array CpInfo := pool [(1, u "java/lang/Cloneable"), (0, .class_ 1), (0, u "java/lang/Object"), (0, .class_ 3)] 3

/-- java/lang/Cloneable -/
def k3 : Class := { plain "java/lang/Cloneable" (some 0) with
  accessFlags := 1537
  interfaces := #[]
  cf := some (fileOf pool3 2 #[] #[] 1537 4 #[] #[])
  fields := #[]
  methods := #[]
  instanceTypes := #[]
  staticTypes := #[]
  resolved := Array.replicate 8 none
  statics := none }

def pool4 : Array CpInfo := pool [(1, u "java/io/Serializable"), (0, .class_ 1), (0, u "java/lang/Object"), (0, .class_ 3)] 3

/-- java/io/Serializable -/
def k4 : Class := { plain "java/io/Serializable" (some 0) with
  accessFlags := 1537
  interfaces := #[]
  cf := some (fileOf pool4 2 #[] #[] 1537 4 #[] #[])
  fields := #[]
  methods := #[]
  instanceTypes := #[]
  staticTypes := #[]
  resolved := Array.replicate 8 none
  statics := none }

/-- the primitive boolean -/
def k5 : Class := { plain "boolean" none with kind := .primitive 'Z', accessFlags := 0x411 }
/-- [Z -/
def k6 : Class := { plain "[Z" (some 0) with kind := .array 5 .boolean, interfaces := #[3, 4], accessFlags := 1041 }

/-- the primitive byte -/
def k7 : Class := { plain "byte" none with kind := .primitive 'B', accessFlags := 0x411 }
/-- [B -/
def k8 : Class := { plain "[B" (some 0) with kind := .array 7 .byte, interfaces := #[3, 4], accessFlags := 1041 }

/-- the primitive int -/
def k9 : Class := { plain "int" none with kind := .primitive 'I', accessFlags := 0x411 }
/-- [I -/
def k10 : Class := { plain "[I" (some 0) with kind := .array 9 .int, interfaces := #[3, 4], accessFlags := 1041 }

def heap : Heap := #[{ cls := 10, slots := #[.int 3, .int 1, .int 5, .int 0, .int 1, .int 5], vm := .none }]
def classes : Array Class := #[k0, k1, k2, k3, k4, k5, k6, k7, k8, k9, k10]
def interned : List (Array UInt16 × Addr) := []
def slotsUsed : Nat := 6
def theMethod : MethodId := ⟨1, 3⟩
def args0 : Array Value := #[.ref 0]
def aboutOver (below : List Frame) : State where
  vm := { classes := classes, interned := interned.toArray }
  heap := heap
  slotsUsed := slotsUsed
  threads := #[{ frames := .invoking theMethod args0 :: below }]
def below0 : List Frame := [.native { method := ⟨0, 0⟩, args := #[] }]
def about1 : State := aboutOver below0
def p0 : Program := .bare "" "" ""
def e0 : Env := launch0.env 0 0 0
theorem w_frames : about1.frames = Frame.invoking theMethod args0 :: below0 := rfl
set_option maxRecDepth 65536 in
theorem w_args : argsFit about1.vm theMethod args0 = true := by decide +kernel
set_option maxRecDepth 65536 in
theorem w_heap : heapFits about1 = true := by decide +kernel
set_option maxRecDepth 65536 in
theorem w_runnable : about1.curStatus? = some .runnable := by decide +kernel
set_option maxRecDepth 65536 in
theorem w_alone : about1.alone = true := by decide +kernel
set_option maxRecDepth 65536 in
theorem w_named : about1.methodNamed? x = some theMethod := by decide +kernel
set_option maxRecDepth 65536 in
theorem w_hears : about1.hears theMethod below0 = true := by decide +kernel
set_option maxRecDepth 65536 in
theorem w_ripe : about1.ripe theMethod args0 below0 = true := by decide +kernel
theorem w_running : about1.status = .running := rfl
set_option maxRecDepth 65536 in
theorem w_room : about1.hasRoom e0.platform room_1 = true :=
  launch0.hasRoom_least _ room_1 (by decide +kernel) (by decide +kernel) (by decide +kernel) (by decide +kernel) (by decide +kernel) (by decide +kernel)
theorem allAtoms_all (ts : List Jvm.Cond) (a : Array Jvm.Value) (st : Jvm.State) : (allAtoms ts).before a st = ts.all (fun c => c.before a st) := by
  induction ts with
  | nil => rfl
  | cons c t ih =>
    show (Jvm.Cond.and c (allAtoms t)).before a st = _
    rw [Jvm.Cond.before_and, ih, List.all_cons]
def words1 : List Jvm.Cond := Jvm.Cond.code x code maxLocals ret :: tables_1
/-- a 'code' word, met by the world's own term for the bytes: nothing is compared byte by byte -/
theorem code_word {y : MethodName} {bytes : ByteArray} {mx : Nat} {rt : Option FieldType} {a : Array Value} {s : State} {m : MethodId} {meth : Method} {c : Code} (h1 : s.methodNamed? y = some m) (h2 : s.vm.method? m = some meth) (h3 : meth.code = some c) (h4 : c.code = bytes)
    (h5 : (c.maxLocals == mx && c.exceptionTable.isEmpty && decide (c.maxStack ≤ mostOperands) && decide (meth.sig.returnType = rt) && !meth.locks && decide (parseMethodDescriptor y.desc = some meth.sig)) = true) : (Jvm.Cond.code y bytes mx rt).before a s = true := by
  simp only [Bool.and_eq_true, beq_iff_eq, Bool.not_eq_true', decide_eq_true_eq] at h5
  obtain ⟨⟨⟨⟨⟨g1, g2⟩, g3⟩, g4⟩, g5⟩, g6⟩ := h5
  simp [Cond.before, Cond.holds, Cond.value, h1, h2, h3, h4, g1, g2, g3, g4, g5, g6]
def isCode : Jvm.Cond → Bool
  | .code _ _ _ _ => true
  | _ => false
theorem all_split {L : List Jvm.Cond} {P : Jvm.Cond → Bool} (h1 : L.all (fun c => isCode c || P c) = true) (h2 : ∀ c ∈ L.filter isCode, P c = true) : L.all P = true := by
  refine List.all_eq_true.mpr fun c hc => ?_
  have h := List.all_eq_true.mp h1 c hc
  rcases Bool.eq_false_or_eq_true (isCode c) with hi | hi
  · exact h2 c (List.mem_filter.mpr ⟨hc, hi⟩)
  · simpa [hi] using h
set_option maxRecDepth 65536 in
theorem w_c0 : (Jvm.Cond.code x code maxLocals ret).before args0 about1 = true := code_word (m := ⟨1, 3⟩) (meth := k1m3) (c := k1c3) (by decide +kernel) rfl rfl rfl (by decide +kernel)
set_option maxRecDepth 65536 in
theorem w_c1 : (Jvm.Cond.code ({ cls := "WsClockPager", name := "<init>", desc := "(IIII)V" } : Jvm.MethodName) prog_1_method_1_code (6 : Nat) (Option.none : Option Jvm.ClassFile.FieldType)).before args0 about1 = true := code_word (m := ⟨2, 0⟩) (meth := k2m0) (c := k2c0) (by decide +kernel) rfl rfl rfl (by decide +kernel)
set_option maxRecDepth 65536 in
theorem w_c2 : (Jvm.Cond.code ({ cls := "java/lang/Object", name := "<init>", desc := "()V" } : Jvm.MethodName) object_method_1_code (1 : Nat) (Option.none : Option Jvm.ClassFile.FieldType)).before args0 about1 = true := code_word (m := ⟨0, 0⟩) (meth := k0m0) (c := k0c0) (by decide +kernel) rfl rfl rfl (by decide +kernel)
set_option maxRecDepth 65536 in
theorem w_c3 : (Jvm.Cond.code ({ cls := "WsClockPager", name := "clamp", desc := "(III)I" } : Jvm.MethodName) prog_1_method_16_code (4 : Nat) (Option.some Jvm.ClassFile.FieldType.int)).before args0 about1 = true := code_word (m := ⟨2, 14⟩) (meth := k2m14) (c := k2c14) (by decide +kernel) rfl rfl rfl (by decide +kernel)
set_option maxRecDepth 65536 in
theorem w_c4 : (Jvm.Cond.code ({ cls := "WsClockPager", name := "isSuspended", desc := "(I)Z" } : Jvm.MethodName) prog_1_method_6_code (2 : Nat) (Option.some Jvm.ClassFile.FieldType.boolean)).before args0 about1 = true := code_word (m := ⟨2, 5⟩) (meth := k2m5) (c := k2c5) (by decide +kernel) rfl rfl rfl (by decide +kernel)
set_option maxRecDepth 65536 in
theorem w_c5 : (Jvm.Cond.code ({ cls := "WsClockPager", name := "validPid", desc := "(I)Z" } : Jvm.MethodName) prog_1_method_17_code (2 : Nat) (Option.some Jvm.ClassFile.FieldType.boolean)).before args0 about1 = true := code_word (m := ⟨2, 15⟩) (meth := k2m15) (c := k2c15) (by decide +kernel) rfl rfl rfl (by decide +kernel)
set_option maxRecDepth 65536 in
theorem w_c6 : (Jvm.Cond.code ({ cls := "WsClockPagerL6", name := "val", desc := "(II)I" } : Jvm.MethodName) method_2_code (2 : Nat) (Option.some Jvm.ClassFile.FieldType.int)).before args0 about1 = true := code_word (m := ⟨1, 1⟩) (meth := k1m1) (c := k1c1) (by decide +kernel) rfl rfl rfl (by decide +kernel)
set_option maxRecDepth 65536 in
theorem w_c7 : (Jvm.Cond.code ({ cls := "WsClockPager", name := "store", desc := "(III)I" } : Jvm.MethodName) prog_1_method_3_code (7 : Nat) (Option.some Jvm.ClassFile.FieldType.int)).before args0 about1 = true := code_word (m := ⟨2, 2⟩) (meth := k2m2) (c := k2c2) (by decide +kernel) rfl rfl rfl (by decide +kernel)
set_option maxRecDepth 65536 in
theorem w_c8 : (Jvm.Cond.code ({ cls := "WsClockPager", name := "check", desc := "(II)I" } : Jvm.MethodName) prog_1_method_18_code (3 : Nat) (Option.some Jvm.ClassFile.FieldType.int)).before args0 about1 = true := code_word (m := ⟨2, 16⟩) (meth := k2m16) (c := k2c16) (by decide +kernel) rfl rfl rfl (by decide +kernel)
set_option maxRecDepth 65536 in
theorem w_c9 : (Jvm.Cond.code ({ cls := "WsClockPager", name := "ensureResident", desc := "(II)I" } : Jvm.MethodName) prog_1_method_25_code (5 : Nat) (Option.some Jvm.ClassFile.FieldType.int)).before args0 about1 = true := code_word (m := ⟨2, 23⟩) (meth := k2m23) (c := k2c23) (by decide +kernel) rfl rfl rfl (by decide +kernel)
set_option maxRecDepth 65536 in
theorem w_c10 : (Jvm.Cond.code ({ cls := "WsClockPager", name := "findFreeFrame", desc := "()I" } : Jvm.MethodName) prog_1_method_26_code (2 : Nat) (Option.some Jvm.ClassFile.FieldType.int)).before args0 about1 = true := code_word (m := ⟨2, 24⟩) (meth := k2m24) (c := k2c24) (by decide +kernel) rfl rfl rfl (by decide +kernel)
set_option maxRecDepth 65536 in
theorem w_c11 : (Jvm.Cond.code ({ cls := "WsClockPager", name := "fillFrame", desc := "(II)V" } : Jvm.MethodName) prog_1_method_27_code (6 : Nat) (Option.none : Option Jvm.ClassFile.FieldType)).before args0 about1 = true := code_word (m := ⟨2, 25⟩) (meth := k2m25) (c := k2c25) (by decide +kernel) rfl rfl rfl (by decide +kernel)
set_option maxRecDepth 65536 in
theorem w_c12 : (Jvm.Cond.code ({ cls := "WsClockPager", name := "recordReference", desc := "(II)V" } : Jvm.MethodName) prog_1_method_21_code (5 : Nat) (Option.none : Option Jvm.ClassFile.FieldType)).before args0 about1 = true := code_word (m := ⟨2, 19⟩) (meth := k2m19) (c := k2c19) (by decide +kernel) rfl rfl rfl (by decide +kernel)
set_option maxRecDepth 65536 in
theorem w_c13 : (Jvm.Cond.code ({ cls := "WsClockPager", name := "pushWindow", desc := "(II)V" } : Jvm.MethodName) prog_1_method_22_code (6 : Nat) (Option.none : Option Jvm.ClassFile.FieldType)).before args0 about1 = true := code_word (m := ⟨2, 20⟩) (meth := k2m20) (c := k2c20) (by decide +kernel) rfl rfl rfl (by decide +kernel)
set_option maxRecDepth 65536 in
theorem w_c14 : (Jvm.Cond.code ({ cls := "WsClockPager", name := "loadControl", desc := "(I)V" } : Jvm.MethodName) prog_1_method_23_code (5 : Nat) (Option.none : Option Jvm.ClassFile.FieldType)).before args0 about1 = true := code_word (m := ⟨2, 21⟩) (meth := k2m21) (c := k2c21) (by decide +kernel) rfl rfl rfl (by decide +kernel)
set_option maxRecDepth 65536 in
theorem w_c15 : (Jvm.Cond.code ({ cls := "WsClockPager", name := "activeTotal", desc := "()I" } : Jvm.MethodName) prog_1_method_10_code (3 : Nat) (Option.some Jvm.ClassFile.FieldType.int)).before args0 about1 = true := code_word (m := ⟨2, 9⟩) (meth := k2m9) (c := k2c9) (by decide +kernel) rfl rfl rfl (by decide +kernel)
set_option maxRecDepth 65536 in
theorem w_c16 : (Jvm.Cond.code ({ cls := "WsClockPager", name := "inWorkingSet", desc := "(II)Z" } : Jvm.MethodName) prog_1_method_9_code (3 : Nat) (Option.some Jvm.ClassFile.FieldType.boolean)).before args0 about1 = true := code_word (m := ⟨2, 8⟩) (meth := k2m8) (c := k2c8) (by decide +kernel) rfl rfl rfl (by decide +kernel)
set_option maxRecDepth 65536 in
theorem w_c17 : (Jvm.Cond.code ({ cls := "WsClockPager", name := "lastStatus", desc := "()I" } : Jvm.MethodName) prog_1_method_5_code (1 : Nat) (Option.some Jvm.ClassFile.FieldType.int)).before args0 about1 = true := code_word (m := ⟨2, 4⟩) (meth := k2m4) (c := k2c4) (by decide +kernel) rfl rfl rfl (by decide +kernel)
set_option maxRecDepth 65536 in
theorem w_c18 : (Jvm.Cond.code ({ cls := "WsClockPager", name := "workingSetSize", desc := "(I)I" } : Jvm.MethodName) prog_1_method_8_code (2 : Nat) (Option.some Jvm.ClassFile.FieldType.int)).before args0 about1 = true := code_word (m := ⟨2, 7⟩) (meth := k2m7) (c := k2c7) (by decide +kernel) rfl rfl rfl (by decide +kernel)
set_option maxRecDepth 65536 in
theorem w_c19 : (Jvm.Cond.code ({ cls := "WsClockPager", name := "suspensions", desc := "()I" } : Jvm.MethodName) prog_1_method_11_code (1 : Nat) (Option.some Jvm.ClassFile.FieldType.int)).before args0 about1 = true := code_word (m := ⟨2, 10⟩) (meth := k2m10) (c := k2c10) (by decide +kernel) rfl rfl rfl (by decide +kernel)
set_option maxRecDepth 65536 in
theorem w_c20 : (Jvm.Cond.code ({ cls := "WsClockPager", name := "readmissions", desc := "()I" } : Jvm.MethodName) prog_1_method_12_code (1 : Nat) (Option.some Jvm.ClassFile.FieldType.int)).before args0 about1 = true := code_word (m := ⟨2, 11⟩) (meth := k2m11) (c := k2c11) (by decide +kernel) rfl rfl rfl (by decide +kernel)
set_option maxRecDepth 65536 in
theorem w_c21 : (Jvm.Cond.code ({ cls := "WsClockPagerL6", name := "proc", desc := "(LWsClockPager;IIJ)Z" } : Jvm.MethodName) method_3_code (9 : Nat) (Option.some Jvm.ClassFile.FieldType.boolean)).before args0 about1 = true := code_word (m := ⟨1, 2⟩) (meth := k1m2) (c := k1c2) (by decide +kernel) rfl rfl rfl (by decide +kernel)
set_option maxRecDepth 65536 in
theorem w_c22 : (Jvm.Cond.code ({ cls := "WsClockPager", name := "touchedPages", desc := "(I)I" } : Jvm.MethodName) prog_1_method_13_code (2 : Nat) (Option.some Jvm.ClassFile.FieldType.int)).before args0 about1 = true := code_word (m := ⟨2, 12⟩) (meth := k2m12) (c := k2c12) (by decide +kernel) rfl rfl rfl (by decide +kernel)
set_option maxRecDepth 65536 in
theorem w_c23 : (Jvm.Cond.code ({ cls := "WsClockPager", name := "virtualTime", desc := "(I)I" } : Jvm.MethodName) prog_1_method_7_code (2 : Nat) (Option.some Jvm.ClassFile.FieldType.int)).before args0 about1 = true := code_word (m := ⟨2, 6⟩) (meth := k2m6) (c := k2c6) (by decide +kernel) rfl rfl rfl (by decide +kernel)
set_option maxRecDepth 65536 in
theorem w_c24 : (Jvm.Cond.code ({ cls := "WsClockPager", name := "memorySum", desc := "(I)I" } : Jvm.MethodName) prog_1_method_14_code (6 : Nat) (Option.some Jvm.ClassFile.FieldType.int)).before args0 about1 = true := code_word (m := ⟨2, 13⟩) (meth := k2m13) (c := k2c13) (by decide +kernel) rfl rfl rfl (by decide +kernel)
set_option maxRecDepth 65536 in
theorem w_c25 : (Jvm.Cond.code ({ cls := "WsClockPager", name := "readWord", desc := "(II)I" } : Jvm.MethodName) prog_1_method_19_code (5 : Nat) (Option.some Jvm.ClassFile.FieldType.int)).before args0 about1 = true := code_word (m := ⟨2, 17⟩) (meth := k2m17) (c := k2c17) (by decide +kernel) rfl rfl rfl (by decide +kernel)
set_option maxRecDepth 65536 in
theorem w_c26 : (Jvm.Cond.code ({ cls := "WsClockPager", name := "load", desc := "(II)J" } : Jvm.MethodName) prog_1_method_2_code (7 : Nat) (Option.some Jvm.ClassFile.FieldType.long)).before args0 about1 = true := code_word (m := ⟨2, 1⟩) (meth := k2m1) (c := k2c1) (by decide +kernel) rfl rfl rfl (by decide +kernel)
set_option maxRecDepth 65536 in
theorem w_c27 : (Jvm.Cond.code ({ cls := "WsClockPager", name := "release", desc := "(I)I" } : Jvm.MethodName) prog_1_method_4_code (3 : Nat) (Option.some Jvm.ClassFile.FieldType.int)).before args0 about1 = true := code_word (m := ⟨2, 3⟩) (meth := k2m3) (c := k2c3) (by decide +kernel) rfl rfl rfl (by decide +kernel)
set_option maxRecDepth 65536 in
theorem w_c28 : (Jvm.Cond.code ({ cls := "WsClockPager", name := "discardPage", desc := "(I)V" } : Jvm.MethodName) prog_1_method_20_code (4 : Nat) (Option.none : Option Jvm.ClassFile.FieldType)).before args0 about1 = true := code_word (m := ⟨2, 18⟩) (meth := k2m18) (c := k2c18) (by decide +kernel) rfl rfl rfl (by decide +kernel)
set_option maxRecDepth 65536 in
theorem w_c29 : (Jvm.Cond.code ({ cls := "WsClockPager", name := "chooseVictim", desc := "()I" } : Jvm.MethodName) prog_1_method_28_code (7 : Nat) (Option.some Jvm.ClassFile.FieldType.int)).before args0 about1 = true := code_word (m := ⟨2, 26⟩) (meth := k2m26) (c := k2c26) (by decide +kernel) rfl rfl rfl (by decide +kernel)
set_option maxRecDepth 65536 in
theorem w_c30 : (Jvm.Cond.code ({ cls := "WsClockPager", name := "evictFrame", desc := "(I)V" } : Jvm.MethodName) prog_1_method_29_code (3 : Nat) (Option.none : Option Jvm.ClassFile.FieldType)).before args0 about1 = true := code_word (m := ⟨2, 27⟩) (meth := k2m27) (c := k2c27) (by decide +kernel) rfl rfl rfl (by decide +kernel)
set_option maxRecDepth 65536 in
theorem w_c31 : (Jvm.Cond.code ({ cls := "WsClockPager", name := "pickProcessToSuspend", desc := "(I)I" } : Jvm.MethodName) prog_1_method_24_code (3 : Nat) (Option.some Jvm.ClassFile.FieldType.int)).before args0 about1 = true := code_word (m := ⟨2, 22⟩) (meth := k2m22) (c := k2c22) (by decide +kernel) rfl rfl rfl (by decide +kernel)
set_option maxRecDepth 65536 in
theorem w_c32 : (Jvm.Cond.code ({ cls := "WsClockPager", name := "writeBack", desc := "(I)V" } : Jvm.MethodName) prog_1_method_30_code (5 : Nat) (Option.none : Option Jvm.ClassFile.FieldType)).before args0 about1 = true := code_word (m := ⟨2, 28⟩) (meth := k2m28) (c := k2c28) (by decide +kernel) rfl rfl rfl (by decide +kernel)
set_option maxRecDepth 65536 in
theorem w_c33 : (Jvm.Cond.code ({ cls := "WsClockPager", name := "allocSlot", desc := "()I" } : Jvm.MethodName) prog_1_method_31_code (3 : Nat) (Option.some Jvm.ClassFile.FieldType.int)).before args0 about1 = true := code_word (m := ⟨2, 29⟩) (meth := k2m29) (c := k2c29) (by decide +kernel) rfl rfl rfl (by decide +kernel)
def codes1 : List Jvm.Cond := [Jvm.Cond.code x code maxLocals ret, Jvm.Cond.code ({ cls := "WsClockPager", name := "<init>", desc := "(IIII)V" } : Jvm.MethodName) prog_1_method_1_code (6 : Nat) (Option.none : Option Jvm.ClassFile.FieldType), Jvm.Cond.code ({ cls := "java/lang/Object", name := "<init>", desc := "()V" } : Jvm.MethodName) object_method_1_code (1 : Nat) (Option.none : Option Jvm.ClassFile.FieldType), Jvm.Cond.code ({ cls := "WsClockPager", name := "clamp", desc := "(III)I" } : Jvm.MethodName) prog_1_method_16_code (4 : Nat) (Option.some Jvm.ClassFile.FieldType.int), Jvm.Cond.code ({ cls := "WsClockPager", name := "isSuspended", desc := "(I)Z" } : Jvm.MethodName) prog_1_method_6_code (2 : Nat) (Option.some Jvm.ClassFile.FieldType.boolean), Jvm.Cond.code ({ cls := "WsClockPager", name := "validPid", desc := "(I)Z" } : Jvm.MethodName) prog_1_method_17_code (2 : Nat) (Option.some Jvm.ClassFile.FieldType.boolean), Jvm.Cond.code ({ cls := "WsClockPagerL6", name := "val", desc := "(II)I" } : Jvm.MethodName) method_2_code (2 : Nat) (Option.some Jvm.ClassFile.FieldType.int), Jvm.Cond.code ({ cls := "WsClockPager", name := "store", desc := "(III)I" } : Jvm.MethodName) prog_1_method_3_code (7 : Nat) (Option.some Jvm.ClassFile.FieldType.int), Jvm.Cond.code ({ cls := "WsClockPager", name := "check", desc := "(II)I" } : Jvm.MethodName) prog_1_method_18_code (3 : Nat) (Option.some Jvm.ClassFile.FieldType.int), Jvm.Cond.code ({ cls := "WsClockPager", name := "ensureResident", desc := "(II)I" } : Jvm.MethodName) prog_1_method_25_code (5 : Nat) (Option.some Jvm.ClassFile.FieldType.int), Jvm.Cond.code ({ cls := "WsClockPager", name := "findFreeFrame", desc := "()I" } : Jvm.MethodName) prog_1_method_26_code (2 : Nat) (Option.some Jvm.ClassFile.FieldType.int), Jvm.Cond.code ({ cls := "WsClockPager", name := "fillFrame", desc := "(II)V" } : Jvm.MethodName) prog_1_method_27_code (6 : Nat) (Option.none : Option Jvm.ClassFile.FieldType), Jvm.Cond.code ({ cls := "WsClockPager", name := "recordReference", desc := "(II)V" } : Jvm.MethodName) prog_1_method_21_code (5 : Nat) (Option.none : Option Jvm.ClassFile.FieldType), Jvm.Cond.code ({ cls := "WsClockPager", name := "pushWindow", desc := "(II)V" } : Jvm.MethodName) prog_1_method_22_code (6 : Nat) (Option.none : Option Jvm.ClassFile.FieldType), Jvm.Cond.code ({ cls := "WsClockPager", name := "loadControl", desc := "(I)V" } : Jvm.MethodName) prog_1_method_23_code (5 : Nat) (Option.none : Option Jvm.ClassFile.FieldType), Jvm.Cond.code ({ cls := "WsClockPager", name := "activeTotal", desc := "()I" } : Jvm.MethodName) prog_1_method_10_code (3 : Nat) (Option.some Jvm.ClassFile.FieldType.int), Jvm.Cond.code ({ cls := "WsClockPager", name := "inWorkingSet", desc := "(II)Z" } : Jvm.MethodName) prog_1_method_9_code (3 : Nat) (Option.some Jvm.ClassFile.FieldType.boolean), Jvm.Cond.code ({ cls := "WsClockPager", name := "lastStatus", desc := "()I" } : Jvm.MethodName) prog_1_method_5_code (1 : Nat) (Option.some Jvm.ClassFile.FieldType.int), Jvm.Cond.code ({ cls := "WsClockPager", name := "workingSetSize", desc := "(I)I" } : Jvm.MethodName) prog_1_method_8_code (2 : Nat) (Option.some Jvm.ClassFile.FieldType.int), Jvm.Cond.code ({ cls := "WsClockPager", name := "suspensions", desc := "()I" } : Jvm.MethodName) prog_1_method_11_code (1 : Nat) (Option.some Jvm.ClassFile.FieldType.int), Jvm.Cond.code ({ cls := "WsClockPager", name := "readmissions", desc := "()I" } : Jvm.MethodName) prog_1_method_12_code (1 : Nat) (Option.some Jvm.ClassFile.FieldType.int), Jvm.Cond.code ({ cls := "WsClockPagerL6", name := "proc", desc := "(LWsClockPager;IIJ)Z" } : Jvm.MethodName) method_3_code (9 : Nat) (Option.some Jvm.ClassFile.FieldType.boolean), Jvm.Cond.code ({ cls := "WsClockPager", name := "touchedPages", desc := "(I)I" } : Jvm.MethodName) prog_1_method_13_code (2 : Nat) (Option.some Jvm.ClassFile.FieldType.int), Jvm.Cond.code ({ cls := "WsClockPager", name := "virtualTime", desc := "(I)I" } : Jvm.MethodName) prog_1_method_7_code (2 : Nat) (Option.some Jvm.ClassFile.FieldType.int), Jvm.Cond.code ({ cls := "WsClockPager", name := "memorySum", desc := "(I)I" } : Jvm.MethodName) prog_1_method_14_code (6 : Nat) (Option.some Jvm.ClassFile.FieldType.int), Jvm.Cond.code ({ cls := "WsClockPager", name := "readWord", desc := "(II)I" } : Jvm.MethodName) prog_1_method_19_code (5 : Nat) (Option.some Jvm.ClassFile.FieldType.int), Jvm.Cond.code ({ cls := "WsClockPager", name := "load", desc := "(II)J" } : Jvm.MethodName) prog_1_method_2_code (7 : Nat) (Option.some Jvm.ClassFile.FieldType.long), Jvm.Cond.code ({ cls := "WsClockPager", name := "release", desc := "(I)I" } : Jvm.MethodName) prog_1_method_4_code (3 : Nat) (Option.some Jvm.ClassFile.FieldType.int), Jvm.Cond.code ({ cls := "WsClockPager", name := "discardPage", desc := "(I)V" } : Jvm.MethodName) prog_1_method_20_code (4 : Nat) (Option.none : Option Jvm.ClassFile.FieldType), Jvm.Cond.code ({ cls := "WsClockPager", name := "chooseVictim", desc := "()I" } : Jvm.MethodName) prog_1_method_28_code (7 : Nat) (Option.some Jvm.ClassFile.FieldType.int), Jvm.Cond.code ({ cls := "WsClockPager", name := "evictFrame", desc := "(I)V" } : Jvm.MethodName) prog_1_method_29_code (3 : Nat) (Option.none : Option Jvm.ClassFile.FieldType), Jvm.Cond.code ({ cls := "WsClockPager", name := "pickProcessToSuspend", desc := "(I)I" } : Jvm.MethodName) prog_1_method_24_code (3 : Nat) (Option.some Jvm.ClassFile.FieldType.int), Jvm.Cond.code ({ cls := "WsClockPager", name := "writeBack", desc := "(I)V" } : Jvm.MethodName) prog_1_method_30_code (5 : Nat) (Option.none : Option Jvm.ClassFile.FieldType), Jvm.Cond.code ({ cls := "WsClockPager", name := "allocSlot", desc := "()I" } : Jvm.MethodName) prog_1_method_31_code (3 : Nat) (Option.some Jvm.ClassFile.FieldType.int)]
set_option maxRecDepth 65536 in
theorem codes_eq : words1.filter isCode = codes1 := rfl
theorem w_codes : ∀ c ∈ words1.filter isCode, c.before args0 about1 = true := by
  rw [codes_eq]
  intro c hc
  simp only [codes1, List.mem_cons, List.not_mem_nil, or_false] at hc
  rcases hc with rfl | rfl | rfl | rfl | rfl | rfl | rfl | rfl | rfl | rfl | rfl | rfl | rfl | rfl | rfl | rfl | rfl | rfl | rfl | rfl | rfl | rfl | rfl | rfl | rfl | rfl | rfl | rfl | rfl | rfl | rfl | rfl | rfl | rfl
  · exact w_c0
  · exact w_c1
  · exact w_c2
  · exact w_c3
  · exact w_c4
  · exact w_c5
  · exact w_c6
  · exact w_c7
  · exact w_c8
  · exact w_c9
  · exact w_c10
  · exact w_c11
  · exact w_c12
  · exact w_c13
  · exact w_c14
  · exact w_c15
  · exact w_c16
  · exact w_c17
  · exact w_c18
  · exact w_c19
  · exact w_c20
  · exact w_c21
  · exact w_c22
  · exact w_c23
  · exact w_c24
  · exact w_c25
  · exact w_c26
  · exact w_c27
  · exact w_c28
  · exact w_c29
  · exact w_c30
  · exact w_c31
  · exact w_c32
  · exact w_c33
set_option maxRecDepth 65536 in
theorem w_t1 : (words1.take 24).all (fun c => isCode c || c.before args0 about1) = true := by decide +kernel
set_option maxRecDepth 65536 in
theorem w_t2 : ((words1.drop 24).take 24).all (fun c => isCode c || c.before args0 about1) = true := by decide +kernel
set_option maxRecDepth 65536 in
theorem w_t3 : (((words1.drop 24).drop 24).take 24).all (fun c => isCode c || c.before args0 about1) = true := by decide +kernel
set_option maxRecDepth 65536 in
theorem w_t4 : ((((words1.drop 24).drop 24).drop 24).take 24).all (fun c => isCode c || c.before args0 about1) = true := by decide +kernel
set_option maxRecDepth 65536 in
theorem w_t5 : (((((words1.drop 24).drop 24).drop 24).drop 24).take 24).all (fun c => isCode c || c.before args0 about1) = true := by decide +kernel
set_option maxRecDepth 65536 in
theorem w_t6 : ((((((words1.drop 24).drop 24).drop 24).drop 24).drop 24).take 24).all (fun c => isCode c || c.before args0 about1) = true := by decide +kernel
set_option maxRecDepth 65536 in
theorem w_t7 : (((((((words1.drop 24).drop 24).drop 24).drop 24).drop 24).drop 24).take 24).all (fun c => isCode c || c.before args0 about1) = true := by decide +kernel
set_option maxRecDepth 65536 in
theorem w_t8 : ((((((((words1.drop 24).drop 24).drop 24).drop 24).drop 24).drop 24).drop 24).take 24).all (fun c => isCode c || c.before args0 about1) = true := by decide +kernel
set_option maxRecDepth 65536 in
theorem w_t9 : ((((((((words1.drop 24).drop 24).drop 24).drop 24).drop 24).drop 24).drop 24).drop 24).all (fun c => isCode c || c.before args0 about1) = true := by decide +kernel
theorem w_tables : (allAtoms (Jvm.Cond.code x code maxLocals ret :: tables_1)).before args0 about1 = true := by
  rw [allAtoms_all]
  show words1.all (fun c => c.before args0 about1) = true
  refine all_split ?_ w_codes
  rw [← List.take_append_drop 24 words1, List.all_append, w_t1, ← List.take_append_drop 24 (words1.drop 24), List.all_append, w_t2, ← List.take_append_drop 24 ((words1.drop 24).drop 24), List.all_append, w_t3, ← List.take_append_drop 24 (((words1.drop 24).drop 24).drop 24), List.all_append, w_t4, ← List.take_append_drop 24 ((((words1.drop 24).drop 24).drop 24).drop 24), List.all_append, w_t5, ← List.take_append_drop 24 (((((words1.drop 24).drop 24).drop 24).drop 24).drop 24), List.all_append, w_t6, ← List.take_append_drop 24 ((((((words1.drop 24).drop 24).drop 24).drop 24).drop 24).drop 24), List.all_append, w_t7, ← List.take_append_drop 24 (((((((words1.drop 24).drop 24).drop 24).drop 24).drop 24).drop 24).drop 24), List.all_append, w_t8, w_t9]
  rfl
set_option maxRecDepth 65536 in
theorem w_rest : rest_1_c.before args0 about1 = true := by decide +kernel
set_option maxRecDepth 65536 in
theorem w_case : (Jvm.Cond.and given_1 narrow_1).before args0 about1 = true := by decide +kernel
theorem w_applies : (headSpec (Jvm.Cond.code x code maxLocals ret :: tables_1) room_1).applies x e0.platform about1 = true :=
  (Spec.applies_iff w_frames).mpr ⟨w_running, w_runnable, w_alone, w_named, w_hears, w_ripe, w_room, w_tables⟩
theorem atStart : AtStart classFile x code maxLocals ret World_1 tables_1 room_1 Calls_1 rest_1 Pre_1 launch0 p0 e0 about1 theMethod args0 below0 :=
  ⟨lists_1, trivial, launch0.admits_env _ _ _, launch0.least_env, fairChoices_fair.cas, fairChoices_fair.clock, w_frames, w_args, w_heap, w_applies, trivial, w_rest, w_case⟩
end start1
theorem witness_1 : WitnessClaimed_1 := ⟨start1.p0, start1.e0, start1.about1, start1.theMethod, start1.args0, start1.below0, start1.atStart⟩
end Jvm.Pilot.@@N@@
