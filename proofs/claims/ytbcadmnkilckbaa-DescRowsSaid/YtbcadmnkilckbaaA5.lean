/- An arena's accesses: their contracts, put together. Written by gen/arena.py. Own text. -/
import Derived.Test.YtbcadmnkilckbaaA4
namespace Go.Ideal.A2
open Go.Proofs Go.Ideal Go.Ideal.L1
def sLoadp : Spec := spG 41 (arCt 110 0 nowLoad 0)
theorem sLoadp_ok : SpecOk Try.prog sLoadp := arCt_ok fun g k zs hz hk => by
  match zs, hz with
  | [], _ => exact callKeep below_ok (arLoadp g k  hk)
def sStorep : Spec := spG 17 (arCt 110 1 nowStore 1)
theorem sStorep_ok : SpecOk Try.prog sStorep := arCt_ok fun g k zs hz hk => by
  match zs, hz with
  | [x], _ => exact callKeep below_ok (arStorep g k x hk)
def sSwapp : Spec := spG 75 (arCt 110 2 nowSwap 2)
theorem sSwapp_ok : SpecOk Try.prog sSwapp := arCt_ok fun g k zs hz hk => by
  match zs, hz with
  | [x, y], _ => exact callKeep below_ok (arSwapp g k x y hk)
def accp : Spec := orS sLoadp (orS sStorep sSwapp)
theorem accp_ok : SpecOk Try.prog accp := orS_ok sLoadp_ok (orS_ok sStorep_ok sSwapp_ok)
def sLoadr : Spec := spG 79 (arCt 117 0 nowLoad 0)
theorem sLoadr_ok : SpecOk Try.prog sLoadr := arCt_ok fun g k zs hz hk => by
  match zs, hz with
  | [], _ => exact callKeep below_ok (arLoadr g k  hk)
def sStorer : Spec := spG 56 (arCt 117 1 nowStore 1)
theorem sStorer_ok : SpecOk Try.prog sStorer := arCt_ok fun g k zs hz hk => by
  match zs, hz with
  | [x], _ => exact callKeep below_ok (arStorer g k x hk)
def sSwapr : Spec := spG 81 (arCt 117 2 nowSwap 2)
theorem sSwapr_ok : SpecOk Try.prog sSwapr := arCt_ok fun g k zs hz hk => by
  match zs, hz with
  | [x, y], _ => exact callKeep below_ok (arSwapr g k x y hk)
def accr : Spec := orS sLoadr (orS sStorer sSwapr)
theorem accr_ok : SpecOk Try.prog accr := orS_ok sLoadr_ok (orS_ok sStorer_ok sSwapr_ok)
end Go.Ideal.A2
