/- The abstract code of package cmp, written by wip/tools/gen.py from the translation. -/
import Derived.Test.YthgdobdhdfjhfaaI
namespace Go.Proofs.Ythgdobdhdfjhfaa
open Go Go.Ab
/-! cmp.Compare[int] -/
def F.cmp_Compare_int.r0 : List DOp := [
  ⟨some 4, .mv (.const (.int .i64 0)), none, []⟩]
def F.cmp_Compare_int.r1 : List DOp := [
  ⟨some 7, .mv (.tmp 0), none, []⟩,
  ⟨some 8, .call I.cmp_isNaN_int [.tmp 7], none, []⟩,
  ⟨some 5, .mv (.tmp 8), none, []⟩]
def F.cmp_Compare_int.r2 : List DOp := [
  ⟨some 9, .mv (.tmp 1), none, []⟩,
  ⟨some 10, .call I.cmp_isNaN_int [.tmp 9], none, []⟩,
  ⟨some 6, .mv (.tmp 10), none, []⟩]
def F.cmp_Compare_int.r3 : List DOp := [
  ⟨some 11, .mv (.tmp 5), none, []⟩]
def F.cmp_Compare_int.r4 : List DOp := [
  ⟨some 12, .mv (.tmp 6), none, []⟩]
def F.cmp_Compare_int.r5 : List DOp := [
  ⟨some 4, .mv (.const (.int .i64 0)), none, []⟩]
def F.cmp_Compare_int.r6 : List DOp := [
  ⟨some 4, .mv (.const (.int .i64 (-1))), none, []⟩]
def F.cmp_Compare_int.r7 : List DOp := [
  ⟨some 13, .mv (.tmp 6), none, []⟩]
def F.cmp_Compare_int.r8 : List DOp := [
  ⟨some 4, .mv (.const (.int .i64 1)), none, []⟩]
def F.cmp_Compare_int.r9 : List DOp := [
  ⟨some 14, .mv (.tmp 0), none, []⟩,
  ⟨some 15, .mv (.tmp 1), none, []⟩,
  ⟨some 16, .bin .lss (.tmp 14) (.tmp 15), none, []⟩]
def F.cmp_Compare_int.r10 : List DOp := [
  ⟨some 4, .mv (.const (.int .i64 (-1))), none, []⟩]
def F.cmp_Compare_int.r11 : List DOp := [
  ⟨some 17, .mv (.tmp 0), none, []⟩,
  ⟨some 18, .mv (.tmp 1), none, []⟩,
  ⟨some 19, .bin .gtr (.tmp 17) (.tmp 18), none, []⟩]
def F.cmp_Compare_int.r12 : List DOp := [
  ⟨some 4, .mv (.const (.int .i64 1)), none, []⟩]
def F.cmp_Compare_int.r13 : List DOp := [
  ⟨some 4, .mv (.const (.int .i64 0)), none, []⟩]
def F.cmp_Compare_int.c : ACode := .seq (.region F.cmp_Compare_int.r0) (.seq (.region F.cmp_Compare_int.r1) (.seq (.region F.cmp_Compare_int.r2) (.seq (.seq (.region F.cmp_Compare_int.r3) (.cond (.tmp 11) (.seq (.seq (.region F.cmp_Compare_int.r4) (.cond (.tmp 12) (.seq (.region F.cmp_Compare_int.r5) (.ret)) (.skip))) (.seq (.region F.cmp_Compare_int.r6) (.ret))) (.skip))) (.seq (.seq (.region F.cmp_Compare_int.r7) (.cond (.tmp 13) (.seq (.region F.cmp_Compare_int.r8) (.ret)) (.skip))) (.seq (.seq (.region F.cmp_Compare_int.r9) (.cond (.tmp 16) (.seq (.region F.cmp_Compare_int.r10) (.ret)) (.skip))) (.seq (.seq (.region F.cmp_Compare_int.r11) (.cond (.tmp 19) (.seq (.region F.cmp_Compare_int.r12) (.ret)) (.skip))) (.seq (.region F.cmp_Compare_int.r13) (.ret))))))))
def F.cmp_Compare_int : AFunc := ⟨F.cmp_Compare_int.c, [.tmp 4]⟩
/-! cmp.isNaN[int] -/
def F.cmp_isNaN_int.r0 : List DOp := [
  ⟨some 2, .mv (.const (.bool false)), none, []⟩]
def F.cmp_isNaN_int.r1 : List DOp := [
  ⟨some 3, .mv (.tmp 0), none, []⟩,
  ⟨some 4, .mv (.tmp 0), none, []⟩,
  ⟨some 5, .bin .neq (.tmp 3) (.tmp 4), none, []⟩,
  ⟨some 2, .mv (.tmp 5), none, []⟩]
def F.cmp_isNaN_int.c : ACode := .seq (.region F.cmp_isNaN_int.r0) (.seq (.region F.cmp_isNaN_int.r1) (.ret))
def F.cmp_isNaN_int : AFunc := ⟨F.cmp_isNaN_int.c, [.tmp 2]⟩
end Go.Proofs.Ythgdobdhdfjhfaa
