/- Theory for the proofs of this claim: see its last text. -/
import Derived.Test.YtkdcimbonbjljaaDenA
set_option linter.unusedVariables false
noncomputable section
namespace Go.Den.G
def F : Nat := 1000000000000000
abbrev Z0 := (Int × Unit)
abbrev Z1 := (((List Int) × (Int × Z0)) × Unit)
abbrev Z2 := (Int × (Int × Z0))
abbrev Z3 := (Bool × Unit)
abbrev Z4 := ((List Page) × Unit)
abbrev Z5 := ((Z4 × Unit) × Unit)
abbrev Z6 := ((List Page) × (Int × Z0))
abbrev Z7 := (Z6 × (Z4 × Unit))
abbrev Z8 := (Page × Unit)
abbrev Z9 := (Bool × (Z0 × Unit))
abbrev Z10 := (Int × (Z0 × Unit))
abbrev Z11 := (Z6 × (Z0 × Unit))
abbrev Z12 := ((Z4 × Z0) × Unit)
abbrev Z13 := (List UInt8)
abbrev Z14 := ((Z13 × Z0) × Unit)
abbrev Z15 := (Z13 × Unit)
abbrev Z16 := (Int × (Int × Z15))
abbrev Z17 := (Z16 × Unit)
abbrev Z18 := (Bool × Z17)
abbrev Z19 := (Unit × Unit)
abbrev Z20 := (((List Page) × Z0) × Unit)
abbrev Z21 := ((List Page) × Z4)
abbrev Z22 := (Z0 × (Z4 × (Z16 × Z19)))
abbrev Z23 := ((Z4 × (Int × Z0)) × Unit)
abbrev Z24 := ((Z4 × Z2) × Unit)
abbrev Z25 := ((Int × Z2) × (Z4 × Unit))
abbrev Z26 := ((List Int) × Unit)
abbrev Z27 := (Z2 × (Z4 × Z26))
abbrev Z28 := (Option Z15)
abbrev Z29 := ((Z13 × Z2) × Unit)
abbrev Z30 := ((Int × Z0) × Unit)
abbrev Z31 := ((Int × Z15) × (Z4 × (Unit × (Unit × Z4))))
abbrev Z32 := ((Int × Z0) × (Z4 × Unit))
abbrev Z33 := (((List Page) × Z6) × Unit)
def S_laws_at (x1 : Z1) : Option Z0 :=
  (br (leI x1.1.2.2.1 1) (some (0, ())) (br (eqI (lenL x1.1.1) 0) (br (notB (eqI x1.1.2.2.1 0)) (some ((remI (mulI .i64 x1.1.2.1 7) x1.1.2.2.1), ())) none) (br (notB (eqI (lenL x1.1.1) 0)) (br (inR (remI x1.1.2.1 (lenL x1.1.1)) (lenL x1.1.1)) (br (notB (eqI (lenL x1.1.1) 0)) (br (inR (remI (addI .i64 x1.1.2.1 1) (lenL x1.1.1)) (lenL x1.1.1)) (br (notB (eqI (lenL x1.1.1) 0)) (br (notB (eqI x1.1.2.2.1 0)) (some ((remI (addI .i64 (addI .i64 (mulI .i64 (wrapI .i64 (getL x1.1.1 (remI x1.1.2.1 (lenL x1.1.1)) (dflt .u))) 31) (wrapI .i64 (getL x1.1.1 (remI (addI .i64 x1.1.2.1 1) (lenL x1.1.1)) (dflt .u)))) (quoI .i64 x1.1.2.1 (lenL x1.1.1))) x1.1.2.2.1), ())) none) none) none) none) none) none)))
def S_impl_within (x1 : (Z2 × Unit)) : Option Z3 :=
  (bnd (br (leI x1.1.2.1 x1.1.1) (some (leI x1.1.1 x1.1.2.2.1)) (some false)) (fun (x2 : Bool) => (some (x2, ()))))
def S_impl_isBase (x1 : (Z0 × Unit)) : Option Z3 :=
  (bnd (S_impl_within ((x1.1.1, (0, (65535, ()))), ())) (fun (x2 : Z3) => (bnd (br x2.1 (some (eqI (remI x1.1.1 256) 0)) (some false)) (fun (x3 : Bool) => (some (x3, ()))))))
def S_impl_isPerm (x1 : (Z0 × Unit)) : Option Z3 :=
  (bnd (S_impl_within ((x1.1.1, (0, (7, ()))), ())) (fun (x2 : Z3) => (some x2)))
def S_impl_MemoryOK (x1 : Z5) : Option Z3 :=
  (iter (σ := Z7) F (fun (x2 : (Z7 → (Option Z3))) => (fun (x3 : Z7) => (br (ltI x3.1.2.2.1 x3.1.2.1) (br (inR x3.1.2.2.1 (lenL x3.1.1)) (bnd (S_impl_isBase (((getL x3.1.1 x3.1.2.2.1 (dflt .page)).base, ()), ())) (fun (x4 : Z3) => (br (notB x4.1) (some (false, ())) (bnd (S_impl_isPerm (((getL x3.1.1 x3.1.2.2.1 (dflt .page)).perm, ()), ())) (fun (x5 : Z3) => (br (notB x5.1) (some (false, ())) (br (notB (eqI (lenL (getL x3.1.1 x3.1.2.2.1 (dflt .page)).data) 256)) (some (false, ())) (br (ltI 0 x3.1.2.2.1) (br (inR (subI .i64 x3.1.2.2.1 1) (lenL x3.2.1.1)) (br (leI (getL x3.1.1 x3.1.2.2.1 (dflt .page)).base (getL x3.2.1.1 (subI .i64 x3.1.2.2.1 1) (dflt .page)).base) (some (false, ())) (x2 ((x3.1.1, (x3.1.2.1, ((addI .i64 x3.1.2.2.1 1), ()))), x3.2))) none) (x2 ((x3.1.1, (x3.1.2.1, ((addI .i64 x3.1.2.2.1 1), ()))), x3.2)))))))))) none) (some ((leI (lenL x3.2.1.1) 32), ()))))) ((x1.1.1.1, ((lenL x1.1.1.1), (0, ()))), x1.1))
def S_impl_Memory_pageOf_1 (x1 : (Z8 × (Z0 × Unit))) : Option Z9 :=
  (some ((eqI x1.1.1.base (subI .i64 x1.2.1.1 (remI x1.2.1.1 256))), x1.2))
def S_slices_IndexFunc_implPage_cimpl_Memory_pageOf_1 (x1 : (Z4 × (Z0 × Unit))) : Option Z10 :=
  (iter (σ := Z11) F (fun (x2 : (Z11 → (Option Z10))) => (fun (x3 : Z11) => (br (ltI x3.1.2.2.1 x3.1.2.1) (br (inR x3.1.2.2.1 (lenL x3.1.1)) (bnd (S_impl_Memory_pageOf_1 (((getL x3.1.1 x3.1.2.2.1 (dflt .page)), ()), x3.2)) (fun (x4 : Z9) => (br x4.1 (some (x3.1.2.2.1, x3.2)) (x2 ((x3.1.1, (x3.1.2.1, ((addI .i64 x3.1.2.2.1 1), ()))), x3.2))))) none) (some ((-1), x3.2))))) ((x1.1.1, ((lenL x1.1.1), (0, ()))), x1.2))
def S_impl_Memory_pageOf (x1 : Z12) : Option Z0 :=
  (bnd (S_impl_within ((x1.1.2.1, (0, (65535, ()))), ())) (fun (x2 : Z3) => (br (notB x2.1) (some ((-1), ())) (bnd (S_slices_IndexFunc_implPage_cimpl_Memory_pageOf_1 (x1.1.1, (x1.1.2, ()))) (fun (x3 : Z10) => (some (x3.1, ())))))))
def S_slices_Clone_implPage (x1 : (Z4 × Unit)) : Option (Unit × Z4) :=
  (br (eqI (lenL x1.1.1) 0) (eqO (some ((), (([] : List Page), ()))) (br (fits2 ([] : List Page) x1.1.1) (some ((), ((appL ([] : List Page) x1.1.1), ()))) none)) (br (fits2 ([] : List Page) x1.1.1) (some ((), ((appL ([] : List Page) x1.1.1), ()))) none))
def S_impl_copyMemory (x1 : Z5) : Option (Unit × Z4) :=
  (bnd (S_slices_Clone_implPage x1.1) (fun (x2 : (Unit × Z4)) => (some ((), x2.2))))
def S_strings_Repeat (x1 : Z14) : Option Z15 := pRepeat x1.1.1 x1.1.2.1
def S_impl_Memory_with_1 (x1 : (Z8 × Z17)) : Option Z18 :=
  (some ((ltI x1.2.1.1 x1.1.1.base), x1.2))
def S_slices_IndexFunc_implPage_cimpl_Memory_with_1 (x1 : (Z4 × Z17)) : Option (Int × Z17) :=
  (iter (σ := (Z6 × Z17)) F (fun (x2 : ((Z6 × Z17) → (Option (Int × Z17)))) => (fun (x3 : (Z6 × Z17)) => (br (ltI x3.1.2.2.1 x3.1.2.1) (br (inR x3.1.2.2.1 (lenL x3.1.1)) (bnd (S_impl_Memory_with_1 (((getL x3.1.1 x3.1.2.2.1 (dflt .page)), ()), x3.2)) (fun (x4 : Z18) => (br x4.1 (some (x3.1.2.2.1, x3.2)) (x2 ((x3.1.1, (x3.1.2.1, ((addI .i64 x3.1.2.2.1 1), ()))), x3.2))))) none) (some ((-1), x3.2))))) ((x1.1.1, ((lenL x1.1.1), (0, ()))), x1.2))
def S_slices_Reverse_implPage (x1 : (Z4 × Unit)) : Option Z19 :=
  (iter (σ := (Z6 × Unit)) F (fun (x2 : ((Z6 × Unit) → (Option Z19))) => (fun (x3 : (Z6 × Unit)) => (br (ltI x3.1.2.1 x3.1.2.2.1) (br (inR x3.1.2.2.1 (lenL x3.1.1)) (br (inR x3.1.2.1 (lenL x3.1.1)) (br (inR x3.1.2.1 (lenL x3.1.1)) none none) none) none) (some ((), ()))))) ((x1.1.1, (0, ((subI .i64 (lenL x1.1.1) 1), ()))), ()))
def S_slices_rotateLeft_implPage (x1 : Z20) : Option Z19 :=
  (br (inC x1.1.2.1 (lenL x1.1.1)) (bnd (S_slices_Reverse_implPage (((takeL x1.1.1 x1.1.2.1), ()), ())) (fun (x2 : Z19) => (br (inC x1.1.2.1 (lenL x1.1.1)) (bnd (S_slices_Reverse_implPage (((dropL x1.1.1 x1.1.2.1), ()), ())) (fun (x3 : Z19) => (bnd (S_slices_Reverse_implPage ((x1.1.1, ()), ())) (fun (x4 : Z19) => (some ((), ())))))) none))) none)
def S_slices_rotateRight_implPage (x1 : Z20) : Option Z19 :=
  (bnd (S_slices_rotateLeft_implPage ((x1.1.1, ((subI .i64 (lenL x1.1.1) x1.1.2.1), ())), ())) (fun (x2 : Z19) => (some ((), ()))))
def S_slices_Insert_implPage (x1 : (Z0 × Z21)) : Option Z4 :=
  (br (inC x1.1.1 (lenL x1.2.1)) (br (eqI (lenL x1.2.2.1) 0) (some (x1.2.1, ())) (br (eqI x1.1.1 (lenL x1.2.1)) (br (fits2 x1.2.1 x1.2.2.1) (some ((appL x1.2.1 x1.2.2.1), ())) none) none)) none)
def S_impl_Memory_with (x1 : ((Z4 × Z8) × Unit)) : Option (Z4 × Unit) :=
  (bnd (S_slices_IndexFunc_implPage_cimpl_Memory_with_1 (x1.1.1, ((x1.1.2.1.base, (x1.1.2.1.perm, (x1.1.2.1.data, ()))), ()))) (fun (x2 : (Int × Z17)) => (bnd (br (ltI x2.1 0) (some (Sum.inl (((lenL x1.1.1.1), ()), (x1.1.1, ((x1.1.2.1.base, (x1.1.2.1.perm, (x1.1.2.1.data, ()))), ((), ())))))) (some (Sum.inl ((x2.1, ()), (x1.1.1, ((x1.1.2.1.base, (x1.1.2.1.perm, (x1.1.2.1.data, ()))), ((), ()))))))) (fun (x3 : (Sum Z22 (Z4 × Unit))) => (sumE x3 (fun (x4 : Z22) => (bnd (S_slices_Clone_implPage (x4.2.1, ())) (fun (x5 : (Unit × Z4)) => (bnd (S_slices_Insert_implPage (x4.1, (x5.2.1, (((Page.mk x4.2.2.1.1 x4.2.2.1.2.1 x4.2.2.1.2.2.1) :: ([] : List Page)), ())))) (fun (x6 : Z4) => (some (x6, ()))))))) some)))))
def S_impl_AddPage (x1 : Z23) : Option Z12 :=
  (bnd (S_impl_MemoryOK ((x1.1.1, ()), ())) (fun (x2 : Z3) => (br (notB x2.1) (some (((([] : List Page), ()), (1, ())), ())) (bnd (S_impl_isBase ((x1.1.2.1, ()), ())) (fun (x3 : Z3) => (bnd (br (notB x3.1) (some true) (bnd (S_impl_isPerm (x1.1.2.2, ())) (fun (x4 : Z3) => (some (notB x4.1))))) (fun (x5 : Bool) => (br x5 (some (((([] : List Page), ()), (4, ())), ())) (bnd (S_impl_Memory_pageOf ((x1.1.1, (x1.1.2.1, ())), ())) (fun (x6 : Z0) => (br (leI 0 x6.1) (bnd (S_impl_copyMemory ((x1.1.1, ()), ())) (fun (x7 : (Unit × Z4)) => (some ((x7.2, (13, ())), ())))) (br (eqI (lenL x1.1.1.1) 32) (bnd (S_impl_copyMemory ((x1.1.1, ()), ())) (fun (x8 : (Unit × Z4)) => (some ((x8.2, (7, ())), ())))) (bnd (S_strings_Repeat (((0 :: ([] : List UInt8)), (256, ())), ())) (fun (x9 : Z15) => (bnd (S_impl_Memory_with ((x1.1.1, ((Page.mk x1.1.2.1 x1.1.2.2.1 x9.1), ())), ())) (fun (x10 : (Z4 × Unit)) => (some ((x10.1, (0, ())), ()))))))))))))))))))
def S_impl_SetPerm (x1 : Z23) : Option Z12 :=
  (bnd (S_impl_MemoryOK ((x1.1.1, ()), ())) (fun (x2 : Z3) => (br (notB x2.1) (some (((([] : List Page), ()), (1, ())), ())) (bnd (S_impl_isBase ((x1.1.2.1, ()), ())) (fun (x3 : Z3) => (bnd (br (notB x3.1) (some true) (bnd (S_impl_isPerm (x1.1.2.2, ())) (fun (x4 : Z3) => (some (notB x4.1))))) (fun (x5 : Bool) => (br x5 (some (((([] : List Page), ()), (4, ())), ())) (bnd (S_impl_copyMemory ((x1.1.1, ()), ())) (fun (x6 : (Unit × Z4)) => (bnd (S_impl_Memory_pageOf ((x1.1.1, (x1.1.2.1, ())), ())) (fun (x7 : Z0) => (br (ltI x7.1 0) (some ((x6.2, (13, ())), ())) (br (inR x7.1 (lenL x6.2.1)) (some ((((setL x6.2.1 x7.1 (Page.mk (getL x6.2.1 x7.1 (dflt .page)).base x1.1.2.2.1 (getL x6.2.1 x7.1 (dflt .page)).data)), ()), (0, ())), ())) none))))))))))))))
def S_impl_isSize (x1 : (Z0 × Unit)) : Option Z3 :=
  (bnd (br (eqI x1.1.1 1) (some true) (some (eqI x1.1.1 2))) (fun (x2 : Bool) => (bnd (br x2 (some true) (some (eqI x1.1.1 4))) (fun (x3 : Bool) => (bnd (br x3 (some true) (some (eqI x1.1.1 8))) (fun (x4 : Bool) => (some (x4, ()))))))))
def S_impl_Memory_fault (x1 : Z24) : Option Z0 :=
  (iter (σ := Z25) F (fun (x2 : (Z25 → (Option Z0))) => (fun (x3 : Z25) => (br (ltI x3.1.2.2.2.1 x3.1.2.2.1) (bnd (S_impl_Memory_pageOf ((x3.2.1, ((addI .i64 x3.1.1 x3.1.2.2.2.1), ())), ())) (fun (x4 : Z0) => (br (ltI x4.1 0) (some (13, ())) (bnd (br (notB (eqI x3.1.2.1 0)) (br (inR x4.1 (lenL x3.2.1.1)) (some (eqI (iand .i64 (getL x3.2.1.1 x4.1 (dflt .page)).perm x3.1.2.1) 0)) none) (some false)) (fun (x5 : Bool) => (br x5 (some (14, ())) (x2 ((x3.1.1, (x3.1.2.1, (x3.1.2.2.1, ((addI .i64 x3.1.2.2.2.1 1), ())))), x3.2)))))))) (some (0, ()))))) ((x1.1.2.1, (x1.1.2.2.2.1, (x1.1.2.2.1, (0, ())))), (x1.1.1, ())))
def S_impl_Memory_bytes (x1 : Z23) : Option Z15 :=
  (br (inC x1.1.2.2.1 x1.1.2.2.1) (br (inLim x1.1.2.2.1) (iter (σ := Z27) F (fun (x2 : (Z27 → Z28)) => (fun (x3 : Z27) => (br (ltI x3.1.2.2.1 x3.1.2.1) (bnd (S_impl_Memory_pageOf ((x3.2.1, ((addI .i64 x3.1.1 x3.1.2.2.1), ())), ())) (fun (x4 : Z0) => (br (inR x4.1 (lenL x3.2.1.1)) (br (inR (remI (addI .i64 x3.1.1 x3.1.2.2.1) 256) (lenL (getL x3.2.1.1 x4.1 (dflt .page)).data)) (br (inR x3.1.2.2.1 (lenL x3.2.2.1)) (x2 ((x3.1.1, (x3.1.2.1, ((addI .i64 x3.1.2.2.1 1), ()))), (x3.2.1, ((setL x3.2.2.1 x3.1.2.2.1 (byteAt (getL x3.2.1.1 x4.1 (dflt .page)).data (remI (addI .i64 x3.1.1 x3.1.2.2.1) 256))), ())))) none) none) none))) (some ((toStr x3.2.2.1), ()))))) ((x1.1.2.1, ((lenL (repL x1.1.2.2.1 (dflt .u))), (0, ()))), (x1.1.1, ((repL x1.1.2.2.1 (dflt .u)), ())))) none) none)
def S_impl_take (x1 : (Z15 × Unit)) : Option Z0 :=
  (iter (σ := Z29) F (fun (x2 : (Z29 → (Option Z0))) => (fun (x3 : Z29) => (br (ltI x3.1.2.2.2.1 x3.1.2.2.1) (br (inR x3.1.2.2.2.1 (lenL x3.1.1)) (br (leI 0 (mulI .i64 8 x3.1.2.2.2.1)) (x2 ((x3.1.1, ((ior .i64 x3.1.2.1 (ishl .i64 (wrapI .i64 (byteAt x3.1.1 x3.1.2.2.2.1)) (mulI .i64 8 x3.1.2.2.2.1))), (x3.1.2.2.1, ((addI .i64 x3.1.2.2.2.1 1), ())))), ())) none) none) (some (x3.1.2.1, ()))))) ((x1.1.1, (0, ((lenL x1.1.1), (0, ())))), ()))
def S_impl_Memory_load (x1 : Z23) : Option Z30 :=
  (bnd (S_impl_Memory_fault ((x1.1.1, (x1.1.2.1, (x1.1.2.2.1, (1, ())))), ())) (fun (x2 : Z0) => (br (notB (eqI x2.1 0)) (some ((0, x2), ())) (bnd (S_impl_Memory_bytes x1) (fun (x3 : Z15) => (bnd (S_impl_take (x3, ())) (fun (x4 : Z0) => (some ((x4.1, (0, ())), ())))))))))
def S_impl_LoadAt (x1 : Z23) : Option Z30 :=
  (bnd (S_impl_MemoryOK ((x1.1.1, ()), ())) (fun (x2 : Z3) => (br (notB x2.1) (some ((0, (1, ())), ())) (bnd (S_impl_isSize (x1.1.2.2, ())) (fun (x3 : Z3) => (br (notB x3.1) (some ((0, (4, ())), ())) (bnd (S_impl_Memory_load x1) (fun (x4 : Z30) => (some x4)))))))))
def S_impl_little (x1 : Z30) : Option Z15 :=
  (br (inC x1.1.2.1 x1.1.2.1) (br (inLim x1.1.2.1) (iter (σ := (Z2 × Z26)) F (fun (x2 : ((Z2 × Z26) → Z28)) => (fun (x3 : (Z2 × Z26)) => (br (ltI x3.1.2.2.1 x3.1.2.1) (br (leI 0 (mulI .i64 8 x3.1.2.2.1)) (br (inR x3.1.2.2.1 (lenL x3.2.1)) (x2 ((x3.1.1, (x3.1.2.1, ((addI .i64 x3.1.2.2.1 1), ()))), ((setL x3.2.1 x3.1.2.2.1 (wrapI .u8 (ishr .i64 x3.1.1 (mulI .i64 8 x3.1.2.2.1)))), ()))) none) none) (some ((toStr x3.2.1), ()))))) ((x1.1.1, ((lenL (repL x1.1.2.1 (dflt .u))), (0, ()))), ((repL x1.1.2.1 (dflt .u)), ()))) none) none)
def S_impl_Memory_lay (x1 : ((Z4 × (Int × Z15)) × Unit)) : Option (Z4 × Unit) :=
  (bnd (S_impl_copyMemory ((x1.1.1, ()), ())) (fun (x2 : (Unit × Z4)) => (iter (σ := Z31) F (fun (x3 : (Z31 → (Option (Z4 × Unit)))) => (fun (x4 : Z31) => (br (ltI 0 (lenL x4.1.2.1)) (bnd (S_impl_Memory_pageOf ((x4.2.1, (x4.1.1, ())), ())) (fun (x5 : Z0) => (br (inR x5.1 (lenL x4.2.2.2.2.1)) (br (inC (remI x4.1.1 256) (lenL (getL x4.2.2.2.2.1 x5.1 (dflt .page)).data)) (br (inC (imin (lenL x4.1.2.1) (subI .i64 256 (remI x4.1.1 256))) (lenL x4.1.2.1)) (br (fits2 (takeL (getL x4.2.2.2.2.1 x5.1 (dflt .page)).data (remI x4.1.1 256)) (takeL x4.1.2.1 (imin (lenL x4.1.2.1) (subI .i64 256 (remI x4.1.1 256))))) (br (inC (addI .i64 (remI x4.1.1 256) (imin (lenL x4.1.2.1) (subI .i64 256 (remI x4.1.1 256)))) (lenL (getL x4.2.2.2.2.1 x5.1 (dflt .page)).data)) (br (fits2 (appL (takeL (getL x4.2.2.2.2.1 x5.1 (dflt .page)).data (remI x4.1.1 256)) (takeL x4.1.2.1 (imin (lenL x4.1.2.1) (subI .i64 256 (remI x4.1.1 256))))) (dropL (getL x4.2.2.2.2.1 x5.1 (dflt .page)).data (addI .i64 (remI x4.1.1 256) (imin (lenL x4.1.2.1) (subI .i64 256 (remI x4.1.1 256)))))) (br (inC (imin (lenL x4.1.2.1) (subI .i64 256 (remI x4.1.1 256))) (lenL x4.1.2.1)) (x3 (((addI .i64 x4.1.1 (imin (lenL x4.1.2.1) (subI .i64 256 (remI x4.1.1 256)))), ((dropL x4.1.2.1 (imin (lenL x4.1.2.1) (subI .i64 256 (remI x4.1.1 256)))), ())), (x4.2.1, ((), ((), ((setL x4.2.2.2.2.1 x5.1 (Page.mk (getL x4.2.2.2.2.1 x5.1 (dflt .page)).base (getL x4.2.2.2.2.1 x5.1 (dflt .page)).perm (appL (appL (takeL (getL x4.2.2.2.2.1 x5.1 (dflt .page)).data (remI x4.1.1 256)) (takeL x4.1.2.1 (imin (lenL x4.1.2.1) (subI .i64 256 (remI x4.1.1 256))))) (dropL (getL x4.2.2.2.2.1 x5.1 (dflt .page)).data (addI .i64 (remI x4.1.1 256) (imin (lenL x4.1.2.1) (subI .i64 256 (remI x4.1.1 256)))))))), ())))))) none) none) none) none) none) none) none))) (some (x4.2.2.2.2, ()))))) (x1.1.2, (x1.1.1, ((), ((), x2.2)))))))
def S_impl_Memory_store (x1 : Z24) : Option Z12 :=
  (bnd (S_impl_Memory_fault ((x1.1.1, (x1.1.2.1, (x1.1.2.2.1, (2, ())))), ())) (fun (x2 : Z0) => (br (notB (eqI x2.1 0)) (bnd (S_impl_copyMemory ((x1.1.1, ()), ())) (fun (x3 : (Unit × Z4)) => (some ((x3.2, x2), ())))) (bnd (S_impl_little ((x1.1.2.2.2.1, (x1.1.2.2.1, ())), ())) (fun (x4 : Z15) => (bnd (S_impl_Memory_lay ((x1.1.1, (x1.1.2.1, x4)), ())) (fun (x5 : (Z4 × Unit)) => (some ((x5.1, (0, ())), ())))))))))
def S_impl_StoreAt (x1 : Z24) : Option Z12 :=
  (bnd (S_impl_MemoryOK ((x1.1.1, ()), ())) (fun (x2 : Z3) => (br (notB x2.1) (some (((([] : List Page), ()), (1, ())), ())) (bnd (S_impl_isSize ((x1.1.2.2.1, ()), ())) (fun (x3 : Z3) => (br (notB x3.1) (some (((([] : List Page), ()), (4, ())), ())) (bnd (S_impl_Memory_store x1) (fun (x4 : Z12) => (some x4)))))))))
def S_impl_FetchAt (x1 : Z12) : Option Z14 :=
  (bnd (S_impl_MemoryOK ((x1.1.1, ()), ())) (fun (x2 : Z3) => (br (notB x2.1) (some ((([] : List UInt8), (1, ())), ())) (bnd (S_impl_Memory_fault ((x1.1.1, (x1.1.2.1, (1, (4, ())))), ())) (fun (x3 : Z0) => (br (notB (eqI x3.1 0)) (some ((([] : List UInt8), x3), ())) (iter (σ := Z32) F (fun (x4 : (Z32 → (Option Z14))) => (fun (x5 : Z32) => (bnd (br (ltI x5.1.2.1 15) (bnd (S_impl_Memory_fault ((x5.2.1, ((addI .i64 x5.1.1 x5.1.2.1), (1, (4, ())))), ())) (fun (x6 : Z0) => (some (eqI x6.1 0)))) (some false)) (fun (x7 : Bool) => (br x7 (x4 ((x5.1.1, ((addI .i64 x5.1.2.1 1), ())), x5.2)) (bnd (S_impl_Memory_bytes ((x5.2.1, x5.1), ())) (fun (x8 : Z15) => (some ((x8.1, (0, ())), ()))))))))) ((x1.1.2.1, (1, ())), (x1.1.1, ())))))))))
def S_impl_PermAt (x1 : Z12) : Option Z30 :=
  (bnd (S_impl_MemoryOK ((x1.1.1, ()), ())) (fun (x2 : Z3) => (br (notB x2.1) (some ((0, (1, ())), ())) (bnd (S_impl_Memory_pageOf x1) (fun (x3 : Z0) => (br (ltI x3.1 0) (some ((0, (13, ())), ())) (br (inR x3.1 (lenL x1.1.1.1)) (some (((getL x1.1.1.1 x3.1 (dflt .page)).perm, (0, ())), ())) none)))))))
def S_slices_Equal_implPage (x1 : (Z21 × Unit)) : Option Z3 :=
  (br (notB (eqI (lenL x1.1.1) (lenL x1.1.2.1))) (some (false, ())) (iter (σ := Z33) F (fun (x2 : (Z33 → (Option Z3))) => (fun (x3 : Z33) => (br (ltI x3.1.2.2.2.1 x3.1.2.2.1) (br (inR x3.1.2.2.2.1 (lenL x3.1.1)) (br (inR x3.1.2.2.2.1 (lenL x3.1.2.1)) (br (notB (andB (eqI (getL x3.1.1 x3.1.2.2.2.1 (dflt .page)).base (getL x3.1.2.1 x3.1.2.2.2.1 (dflt .page)).base) (andB (eqI (getL x3.1.1 x3.1.2.2.2.1 (dflt .page)).perm (getL x3.1.2.1 x3.1.2.2.2.1 (dflt .page)).perm) (eqS (getL x3.1.1 x3.1.2.2.2.1 (dflt .page)).data (getL x3.1.2.1 x3.1.2.2.2.1 (dflt .page)).data)))) (some (false, ())) (x2 ((x3.1.1, (x3.1.2.1, (x3.1.2.2.1, ((addI .i64 x3.1.2.2.2.1 1), ())))), ()))) none) none) (some (true, ()))))) ((x1.1.1, (x1.1.2.1, ((lenL x1.1.1), (0, ())))), ())))
def S_impl_SameMemory (x1 : ((Z4 × (Z4 × Unit)) × Unit)) : Option Z3 :=
  (bnd (S_impl_MemoryOK ((x1.1.1, ()), ())) (fun (x2 : Z3) => (bnd (br x2.1 (bnd (S_impl_MemoryOK (x1.1.2, ())) (fun (x3 : Z3) => (some x3.1))) (some false)) (fun (x4 : Bool) => (bnd (br x4 (bnd (S_slices_Equal_implPage ((x1.1.1.1, x1.1.2.1), ())) (fun (x5 : Z3) => (some x5.1))) (some false)) (fun (x6 : Bool) => (some (x6, ()))))))))
def S_laws_FnPerms (x1 : (((List Int) × Z26) × Unit)) : Option Z3 :=
  (bnd (br (ltI 1048576 (lenL x1.1.1)) (some true) (some (ltI 1048576 (lenL x1.1.2.1)))) (fun (x2 : Bool) => (br x2 (some (true, ())) (bnd (S_laws_at ((x1.1.2.1, (0, (200, ()))), ())) (fun (x3 : Z0) => (iter (σ := Z1) F (fun (x4 : (Z1 → (Option Z3))) => (fun (x5 : Z1) => (br (ltI x5.1.2.2.1 8) (bnd (S_impl_AddPage (((([] : List Page), ()), (x5.1.2.1, (0, ()))), ())) (fun (x6 : Z12) => (bnd (S_impl_SetPerm ((x6.1.1, x5.1.2), ())) (fun (x7 : Z12) => (bnd (S_impl_AddPage ((x7.1.1, ((addI .i64 x5.1.2.1 256), (7, ()))), ())) (fun (x8 : Z12) => (bnd (S_impl_AddPage ((x8.1.1, x5.1.2), ())) (fun (x9 : Z12) => (bnd (br (notB (eqI x6.1.2.1 0)) (some true) (some (notB (eqI x7.1.2.1 0)))) (fun (x10 : Bool) => (bnd (br x10 (some true) (some (notB (eqI x8.1.2.1 0)))) (fun (x11 : Bool) => (bnd (br x11 (some true) (some (notB (eqI x9.1.2.1 13)))) (fun (x12 : Bool) => (bnd (br x12 (some true) (bnd (S_impl_MemoryOK ((x8.1.1, ()), ())) (fun (x13 : Z3) => (some (notB x13.1))))) (fun (x14 : Bool) => (br x14 (some (false, ())) (bnd (S_laws_at ((x5.1.1, (0, (7, ()))), ())) (fun (x15 : Z0) => (bnd (S_impl_LoadAt ((x8.1.1, ((subI .i64 (subI .i64 (addI .i64 x5.1.2.1 256) 1) x15.1), (8, ()))), ())) (fun (x16 : Z30) => (bnd (S_impl_StoreAt ((x8.1.1, ((subI .i64 (subI .i64 (addI .i64 x5.1.2.1 256) 1) x15.1), (8, (5, ())))), ())) (fun (x17 : Z12) => (bnd (S_impl_FetchAt ((x8.1.1, ((subI .i64 (subI .i64 (addI .i64 x5.1.2.1 256) 1) x15.1), ())), ())) (fun (x18 : Z14) => (bnd (S_impl_LoadAt ((x8.1.1, ((subI .i64 (addI .i64 x5.1.2.1 512) 1), (2, ()))), ())) (fun (x19 : Z30) => (bnd (S_impl_PermAt ((x8.1.1, ((subI .i64 (subI .i64 (addI .i64 x5.1.2.1 256) 1) x15.1), ())), ())) (fun (x20 : Z30) => (bnd (br (notB (eqB (eqI x16.1.2.1 0) (notB (eqI (iand .i64 x5.1.2.2.1 1) 0)))) (some true) (bnd (br (notB (eqI x16.1.2.1 0)) (some (notB (eqI x16.1.2.1 14))) (some false)) (fun (x21 : Bool) => (some x21)))) (fun (x22 : Bool) => (bnd (br x22 (some true) (some (notB (eqB (eqI x17.1.2.1 0) (notB (eqI (iand .i64 x5.1.2.2.1 2) 0)))))) (fun (x23 : Bool) => (bnd (br x23 (some true) (bnd (S_impl_SameMemory ((x17.1.1, (x8.1.1, ())), ())) (fun (x24 : Z3) => (some (eqB (eqI x17.1.2.1 0) x24.1))))) (fun (x25 : Bool) => (bnd (br x25 (some true) (some (notB (eqB (eqI x18.1.2.1 0) (notB (eqI (iand .i64 x5.1.2.2.1 4) 0)))))) (fun (x26 : Bool) => (bnd (br x26 (some true) (some (notB (eqI x19.1.2.1 13)))) (fun (x27 : Bool) => (bnd (br x27 (some true) (some (notB (eqI x20.1.1 x5.1.2.2.1)))) (fun (x28 : Bool) => (bnd (br x28 (some true) (some (notB (eqI x20.1.2.1 0)))) (fun (x29 : Bool) => (br x29 (some (false, ())) (bnd (br (eqI x18.1.2.1 0) (some (notB (eqI (lenL x18.1.1) 15))) (some false)) (fun (x30 : Bool) => (br x30 (some (false, ())) (x4 ((x5.1.1, (x5.1.2.1, ((addI .i64 x5.1.2.2.1 1), ()))), ()))))))))))))))))))))))))))))))))))))))))))))))))) (some (true, ()))))) ((x1.1.1, ((mulI .i64 256 x3.1), (0, ()))), ())))))))
end Go.Den.G
