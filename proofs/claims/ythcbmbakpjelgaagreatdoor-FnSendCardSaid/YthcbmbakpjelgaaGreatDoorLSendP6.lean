/- Plain laws of those functions. -/
import Derived.Test.YthcbmbakpjelgaaGreatDoorLSendP5
namespace Go.AE.F
open Go.AE
theorem zO2 (M:Nat):zA9 M 0=some ⟨#[48]⟩/\zA5 (M+4) 0=some ⟨#[48]⟩:=⟨by kernel_rfl,by kernel_rfl⟩
theorem zO9 (M:Nat):zA9 M 1=some ⟨#[49]⟩/\zA5 (M+4) 1=some ⟨#[49]⟩:=⟨by kernel_rfl,by kernel_rfl⟩
theorem zOB (M:Nat):zA9 M 2=some ⟨#[50]⟩/\zA5 (M+4) 2=some ⟨#[50]⟩:=⟨by kernel_rfl,by kernel_rfl⟩
theorem zOE (M:Nat):zA9 M 3=some ⟨#[51]⟩/\zA5 (M+4) 3=some ⟨#[51]⟩:=⟨by kernel_rfl,by kernel_rfl⟩
theorem zOD (M:Nat):zA9 M 4=some ⟨#[52]⟩/\zA5 (M+4) 4=some ⟨#[52]⟩:=⟨by kernel_rfl,by kernel_rfl⟩
theorem zO3 (M:Nat):zA9 M 5=some ⟨#[53]⟩/\zA5 (M+4) 5=some ⟨#[53]⟩:=⟨by kernel_rfl,by kernel_rfl⟩
theorem zO5 (M:Nat):zA9 M 6=some ⟨#[54]⟩/\zA5 (M+4) 6=some ⟨#[54]⟩:=⟨by kernel_rfl,by kernel_rfl⟩
theorem zO4 (M:Nat):zA9 M 7=some ⟨#[55]⟩/\zA5 (M+4) 7=some ⟨#[55]⟩:=⟨by kernel_rfl,by kernel_rfl⟩
theorem zOC (M:Nat):zA9 M 8=some ⟨#[56]⟩/\zA5 (M+4) 8=some ⟨#[56]⟩:=⟨by kernel_rfl,by kernel_rfl⟩
theorem zOA (M:Nat):zA9 M 9=some ⟨#[57]⟩/\zA5 (M+4) 9=some ⟨#[57]⟩:=⟨by kernel_rfl,by kernel_rfl⟩
theorem zKP (M:Nat):zA9 M 10=some ⟨#[49,48]⟩/\zA5 (M+4) 10=some ⟨#[49,48]⟩:=⟨by kernel_rfl,by kernel_rfl⟩
theorem zM5 (M:Nat):zA9 M 11=some ⟨#[49,49]⟩/\zA5 (M+4) 11=some ⟨#[49,49]⟩:=⟨by kernel_rfl,by kernel_rfl⟩
theorem zLG (M:Nat):zA9 M 12=some ⟨#[49,50]⟩/\zA5 (M+4) 12=some ⟨#[49,50]⟩:=⟨by kernel_rfl,by kernel_rfl⟩
theorem zKT (M:Nat):zA9 M 13=some ⟨#[49,51]⟩/\zA5 (M+4) 13=some ⟨#[49,51]⟩:=⟨by kernel_rfl,by kernel_rfl⟩
theorem zM0 (M:Nat):zA9 M 14=some ⟨#[49,52]⟩/\zA5 (M+4) 14=some ⟨#[49,52]⟩:=⟨by kernel_rfl,by kernel_rfl⟩
theorem zLO (M:Nat):zA9 M 15=some ⟨#[49,53]⟩/\zA5 (M+4) 15=some ⟨#[49,53]⟩:=⟨by kernel_rfl,by kernel_rfl⟩
theorem zMW (M:Nat):zA9 M 16=some ⟨#[49,54]⟩/\zA5 (M+4) 16=some ⟨#[49,54]⟩:=⟨by kernel_rfl,by kernel_rfl⟩
theorem zKA (M:Nat):zA9 M 17=some ⟨#[49,55]⟩/\zA5 (M+4) 17=some ⟨#[49,55]⟩:=⟨by kernel_rfl,by kernel_rfl⟩
theorem zK8 (M:Nat):zA9 M 18=some ⟨#[49,56]⟩/\zA5 (M+4) 18=some ⟨#[49,56]⟩:=⟨by kernel_rfl,by kernel_rfl⟩
theorem zKZ (M:Nat):zA9 M 19=some ⟨#[49,57]⟩/\zA5 (M+4) 19=some ⟨#[49,57]⟩:=⟨by kernel_rfl,by kernel_rfl⟩
theorem zMG (M:Nat):zA9 M 20=some ⟨#[50,48]⟩/\zA5 (M+4) 20=some ⟨#[50,48]⟩:=⟨by kernel_rfl,by kernel_rfl⟩
theorem zLZ (M:Nat):zA9 M 21=some ⟨#[50,49]⟩/\zA5 (M+4) 21=some ⟨#[50,49]⟩:=⟨by kernel_rfl,by kernel_rfl⟩
theorem zK7 (M:Nat):zA9 M 22=some ⟨#[50,50]⟩/\zA5 (M+4) 22=some ⟨#[50,50]⟩:=⟨by kernel_rfl,by kernel_rfl⟩
theorem zKJ (M:Nat):zA9 M 23=some ⟨#[50,51]⟩/\zA5 (M+4) 23=some ⟨#[50,51]⟩:=⟨by kernel_rfl,by kernel_rfl⟩
theorem zLW (M:Nat):zA9 M 24=some ⟨#[50,52]⟩/\zA5 (M+4) 24=some ⟨#[50,52]⟩:=⟨by kernel_rfl,by kernel_rfl⟩
theorem zKO (M:Nat):zA9 M 25=some ⟨#[50,53]⟩/\zA5 (M+4) 25=some ⟨#[50,53]⟩:=⟨by kernel_rfl,by kernel_rfl⟩
theorem zKS (M:Nat):zA9 M 26=some ⟨#[50,54]⟩/\zA5 (M+4) 26=some ⟨#[50,54]⟩:=⟨by kernel_rfl,by kernel_rfl⟩
theorem zLY (M:Nat):zA9 M 27=some ⟨#[50,55]⟩/\zA5 (M+4) 27=some ⟨#[50,55]⟩:=⟨by kernel_rfl,by kernel_rfl⟩
theorem zMQ (M:Nat):zA9 M 28=some ⟨#[50,56]⟩/\zA5 (M+4) 28=some ⟨#[50,56]⟩:=⟨by kernel_rfl,by kernel_rfl⟩
theorem zN3 (M:Nat):zA9 M 29=some ⟨#[50,57]⟩/\zA5 (M+4) 29=some ⟨#[50,57]⟩:=⟨by kernel_rfl,by kernel_rfl⟩
theorem zMH (M:Nat):zA9 M 30=some ⟨#[51,48]⟩/\zA5 (M+4) 30=some ⟨#[51,48]⟩:=⟨by kernel_rfl,by kernel_rfl⟩
theorem zLA (M:Nat):zA9 M 31=some ⟨#[51,49]⟩/\zA5 (M+4) 31=some ⟨#[51,49]⟩:=⟨by kernel_rfl,by kernel_rfl⟩
theorem zLS (M:Nat):zA9 M 32=some ⟨#[51,50]⟩/\zA5 (M+4) 32=some ⟨#[51,50]⟩:=⟨by kernel_rfl,by kernel_rfl⟩
theorem zKG (M:Nat):zA9 M 33=some ⟨#[51,51]⟩/\zA5 (M+4) 33=some ⟨#[51,51]⟩:=⟨by kernel_rfl,by kernel_rfl⟩
theorem zLE (M:Nat):zA9 M 34=some ⟨#[51,52]⟩/\zA5 (M+4) 34=some ⟨#[51,52]⟩:=⟨by kernel_rfl,by kernel_rfl⟩
theorem zMF (M:Nat):zA9 M 35=some ⟨#[51,53]⟩/\zA5 (M+4) 35=some ⟨#[51,53]⟩:=⟨by kernel_rfl,by kernel_rfl⟩
theorem zKD (M:Nat):zA9 M 36=some ⟨#[51,54]⟩/\zA5 (M+4) 36=some ⟨#[51,54]⟩:=⟨by kernel_rfl,by kernel_rfl⟩
theorem zJU (M:Nat):zA9 M 37=some ⟨#[51,55]⟩/\zA5 (M+4) 37=some ⟨#[51,55]⟩:=⟨by kernel_rfl,by kernel_rfl⟩
theorem zMR (M:Nat):zA9 M 38=some ⟨#[51,56]⟩/\zA5 (M+4) 38=some ⟨#[51,56]⟩:=⟨by kernel_rfl,by kernel_rfl⟩
theorem zLR (M:Nat):zA9 M 39=some ⟨#[51,57]⟩/\zA5 (M+4) 39=some ⟨#[51,57]⟩:=⟨by kernel_rfl,by kernel_rfl⟩
theorem zKW (M:Nat):zA9 M 40=some ⟨#[52,48]⟩/\zA5 (M+4) 40=some ⟨#[52,48]⟩:=⟨by kernel_rfl,by kernel_rfl⟩
theorem zLB (M:Nat):zA9 M 41=some ⟨#[52,49]⟩/\zA5 (M+4) 41=some ⟨#[52,49]⟩:=⟨by kernel_rfl,by kernel_rfl⟩
theorem zMB (M:Nat):zA9 M 42=some ⟨#[52,50]⟩/\zA5 (M+4) 42=some ⟨#[52,50]⟩:=⟨by kernel_rfl,by kernel_rfl⟩
theorem zJV (M:Nat):zA9 M 43=some ⟨#[52,51]⟩/\zA5 (M+4) 43=some ⟨#[52,51]⟩:=⟨by kernel_rfl,by kernel_rfl⟩
theorem zK1 (M:Nat):zA9 M 44=some ⟨#[52,52]⟩/\zA5 (M+4) 44=some ⟨#[52,52]⟩:=⟨by kernel_rfl,by kernel_rfl⟩
theorem zJW (M:Nat):zA9 M 45=some ⟨#[52,53]⟩/\zA5 (M+4) 45=some ⟨#[52,53]⟩:=⟨by kernel_rfl,by kernel_rfl⟩
theorem zMV (M:Nat):zA9 M 46=some ⟨#[52,54]⟩/\zA5 (M+4) 46=some ⟨#[52,54]⟩:=⟨by kernel_rfl,by kernel_rfl⟩
theorem zJZ (M:Nat):zA9 M 47=some ⟨#[52,55]⟩/\zA5 (M+4) 47=some ⟨#[52,55]⟩:=⟨by kernel_rfl,by kernel_rfl⟩
theorem zKU (M:Nat):zA9 M 48=some ⟨#[52,56]⟩/\zA5 (M+4) 48=some ⟨#[52,56]⟩:=⟨by kernel_rfl,by kernel_rfl⟩
theorem zKB (M:Nat):zA9 M 49=some ⟨#[52,57]⟩/\zA5 (M+4) 49=some ⟨#[52,57]⟩:=⟨by kernel_rfl,by kernel_rfl⟩
theorem zLF (M:Nat):zA9 M 50=some ⟨#[53,48]⟩/\zA5 (M+4) 50=some ⟨#[53,48]⟩:=⟨by kernel_rfl,by kernel_rfl⟩
theorem zN4 (M:Nat):zA9 M 51=some ⟨#[53,49]⟩/\zA5 (M+4) 51=some ⟨#[53,49]⟩:=⟨by kernel_rfl,by kernel_rfl⟩
theorem zM9 (M:Nat):zA9 M 52=some ⟨#[53,50]⟩/\zA5 (M+4) 52=some ⟨#[53,50]⟩:=⟨by kernel_rfl,by kernel_rfl⟩
theorem zLV (M:Nat):zA9 M 53=some ⟨#[53,51]⟩/\zA5 (M+4) 53=some ⟨#[53,51]⟩:=⟨by kernel_rfl,by kernel_rfl⟩
theorem zME (M:Nat):zA9 M 54=some ⟨#[53,52]⟩/\zA5 (M+4) 54=some ⟨#[53,52]⟩:=⟨by kernel_rfl,by kernel_rfl⟩
theorem zLJ (M:Nat):zA9 M 55=some ⟨#[53,53]⟩/\zA5 (M+4) 55=some ⟨#[53,53]⟩:=⟨by kernel_rfl,by kernel_rfl⟩
theorem zN0 (M:Nat):zA9 M 56=some ⟨#[53,54]⟩/\zA5 (M+4) 56=some ⟨#[53,54]⟩:=⟨by kernel_rfl,by kernel_rfl⟩
theorem zMM (M:Nat):zA9 M 57=some ⟨#[53,55]⟩/\zA5 (M+4) 57=some ⟨#[53,55]⟩:=⟨by kernel_rfl,by kernel_rfl⟩
theorem zM1 (M:Nat):zA9 M 58=some ⟨#[53,56]⟩/\zA5 (M+4) 58=some ⟨#[53,56]⟩:=⟨by kernel_rfl,by kernel_rfl⟩
theorem zMJ (M:Nat):zA9 M 59=some ⟨#[53,57]⟩/\zA5 (M+4) 59=some ⟨#[53,57]⟩:=⟨by kernel_rfl,by kernel_rfl⟩
theorem zM8 (M:Nat):zA9 M 60=some ⟨#[54,48]⟩/\zA5 (M+4) 60=some ⟨#[54,48]⟩:=⟨by kernel_rfl,by kernel_rfl⟩
theorem zMA (M:Nat):zA9 M 61=some ⟨#[54,49]⟩/\zA5 (M+4) 61=some ⟨#[54,49]⟩:=⟨by kernel_rfl,by kernel_rfl⟩
theorem zJR (M:Nat):zA9 M 62=some ⟨#[54,50]⟩/\zA5 (M+4) 62=some ⟨#[54,50]⟩:=⟨by kernel_rfl,by kernel_rfl⟩
theorem zLP (M:Nat):zA9 M 63=some ⟨#[54,51]⟩/\zA5 (M+4) 63=some ⟨#[54,51]⟩:=⟨by kernel_rfl,by kernel_rfl⟩
theorem zN1 (M:Nat):zA9 M 64=some ⟨#[54,52]⟩/\zA5 (M+4) 64=some ⟨#[54,52]⟩:=⟨by kernel_rfl,by kernel_rfl⟩
theorem zML (M:Nat):zA9 M 65=some ⟨#[54,53]⟩/\zA5 (M+4) 65=some ⟨#[54,53]⟩:=⟨by kernel_rfl,by kernel_rfl⟩
theorem zKR (M:Nat):zA9 M 66=some ⟨#[54,54]⟩/\zA5 (M+4) 66=some ⟨#[54,54]⟩:=⟨by kernel_rfl,by kernel_rfl⟩
theorem zKE (M:Nat):zA9 M 67=some ⟨#[54,55]⟩/\zA5 (M+4) 67=some ⟨#[54,55]⟩:=⟨by kernel_rfl,by kernel_rfl⟩
theorem zMY (M:Nat):zA9 M 68=some ⟨#[54,56]⟩/\zA5 (M+4) 68=some ⟨#[54,56]⟩:=⟨by kernel_rfl,by kernel_rfl⟩
theorem zM3 (M:Nat):zA9 M 69=some ⟨#[54,57]⟩/\zA5 (M+4) 69=some ⟨#[54,57]⟩:=⟨by kernel_rfl,by kernel_rfl⟩
theorem zLC (M:Nat):zA9 M 70=some ⟨#[55,48]⟩/\zA5 (M+4) 70=some ⟨#[55,48]⟩:=⟨by kernel_rfl,by kernel_rfl⟩
theorem zJS (M:Nat):zA9 M 71=some ⟨#[55,49]⟩/\zA5 (M+4) 71=some ⟨#[55,49]⟩:=⟨by kernel_rfl,by kernel_rfl⟩
theorem zL8 (M:Nat):zA9 M 72=some ⟨#[55,50]⟩/\zA5 (M+4) 72=some ⟨#[55,50]⟩:=⟨by kernel_rfl,by kernel_rfl⟩
theorem zKH (M:Nat):zA9 M 73=some ⟨#[55,51]⟩/\zA5 (M+4) 73=some ⟨#[55,51]⟩:=⟨by kernel_rfl,by kernel_rfl⟩
theorem zMU (M:Nat):zA9 M 74=some ⟨#[55,52]⟩/\zA5 (M+4) 74=some ⟨#[55,52]⟩:=⟨by kernel_rfl,by kernel_rfl⟩
theorem zN2 (M:Nat):zA9 M 75=some ⟨#[55,53]⟩/\zA5 (M+4) 75=some ⟨#[55,53]⟩:=⟨by kernel_rfl,by kernel_rfl⟩
theorem zMD (M:Nat):zA9 M 76=some ⟨#[55,54]⟩/\zA5 (M+4) 76=some ⟨#[55,54]⟩:=⟨by kernel_rfl,by kernel_rfl⟩
theorem zLT (M:Nat):zA9 M 77=some ⟨#[55,55]⟩/\zA5 (M+4) 77=some ⟨#[55,55]⟩:=⟨by kernel_rfl,by kernel_rfl⟩
theorem zK4 (M:Nat):zA9 M 78=some ⟨#[55,56]⟩/\zA5 (M+4) 78=some ⟨#[55,56]⟩:=⟨by kernel_rfl,by kernel_rfl⟩
theorem zM7 (M:Nat):zA9 M 79=some ⟨#[55,57]⟩/\zA5 (M+4) 79=some ⟨#[55,57]⟩:=⟨by kernel_rfl,by kernel_rfl⟩
theorem zL4 (M:Nat):zA9 M 80=some ⟨#[56,48]⟩/\zA5 (M+4) 80=some ⟨#[56,48]⟩:=⟨by kernel_rfl,by kernel_rfl⟩
def decG (n:Nat):ByteArray:=if n < 10 then ⟨#[UInt8.ofNat (48+n)]⟩ else ⟨#[UInt8.ofNat (48+n / 10),UInt8.ofNat (48+n % 10)]⟩
theorem zDV (N n:Nat) (h:n<=80) (hN:4<=N):zA9 N (n:Int)=some (decG n)/\zA5 N (n:Int)=some (decG n):=by
 obtain ⟨M,rfl⟩:∃ M,N=M+4:=⟨N - 4,by omega⟩
 match n,h with
 | 0,_=>exact ⟨(zO2 (M+4)).1,(zO2 M).2⟩
 | 1,_=>exact ⟨(zO9 (M+4)).1,(zO9 M).2⟩
 | 2,_=>exact ⟨(zOB (M+4)).1,(zOB M).2⟩
 | 3,_=>exact ⟨(zOE (M+4)).1,(zOE M).2⟩
 | 4,_=>exact ⟨(zOD (M+4)).1,(zOD M).2⟩
 | 5,_=>exact ⟨(zO3 (M+4)).1,(zO3 M).2⟩
 | 6,_=>exact ⟨(zO5 (M+4)).1,(zO5 M).2⟩
 | 7,_=>exact ⟨(zO4 (M+4)).1,(zO4 M).2⟩
 | 8,_=>exact ⟨(zOC (M+4)).1,(zOC M).2⟩
 | 9,_=>exact ⟨(zOA (M+4)).1,(zOA M).2⟩
 | 10,_=>exact ⟨(zKP (M+4)).1,(zKP M).2⟩
 | 11,_=>exact ⟨(zM5 (M+4)).1,(zM5 M).2⟩
 | 12,_=>exact ⟨(zLG (M+4)).1,(zLG M).2⟩
 | 13,_=>exact ⟨(zKT (M+4)).1,(zKT M).2⟩
 | 14,_=>exact ⟨(zM0 (M+4)).1,(zM0 M).2⟩
 | 15,_=>exact ⟨(zLO (M+4)).1,(zLO M).2⟩
 | 16,_=>exact ⟨(zMW (M+4)).1,(zMW M).2⟩
 | 17,_=>exact ⟨(zKA (M+4)).1,(zKA M).2⟩
 | 18,_=>exact ⟨(zK8 (M+4)).1,(zK8 M).2⟩
 | 19,_=>exact ⟨(zKZ (M+4)).1,(zKZ M).2⟩
 | 20,_=>exact ⟨(zMG (M+4)).1,(zMG M).2⟩
 | 21,_=>exact ⟨(zLZ (M+4)).1,(zLZ M).2⟩
 | 22,_=>exact ⟨(zK7 (M+4)).1,(zK7 M).2⟩
 | 23,_=>exact ⟨(zKJ (M+4)).1,(zKJ M).2⟩
 | 24,_=>exact ⟨(zLW (M+4)).1,(zLW M).2⟩
 | 25,_=>exact ⟨(zKO (M+4)).1,(zKO M).2⟩
 | 26,_=>exact ⟨(zKS (M+4)).1,(zKS M).2⟩
 | 27,_=>exact ⟨(zLY (M+4)).1,(zLY M).2⟩
 | 28,_=>exact ⟨(zMQ (M+4)).1,(zMQ M).2⟩
 | 29,_=>exact ⟨(zN3 (M+4)).1,(zN3 M).2⟩
 | 30,_=>exact ⟨(zMH (M+4)).1,(zMH M).2⟩
 | 31,_=>exact ⟨(zLA (M+4)).1,(zLA M).2⟩
 | 32,_=>exact ⟨(zLS (M+4)).1,(zLS M).2⟩
 | 33,_=>exact ⟨(zKG (M+4)).1,(zKG M).2⟩
 | 34,_=>exact ⟨(zLE (M+4)).1,(zLE M).2⟩
 | 35,_=>exact ⟨(zMF (M+4)).1,(zMF M).2⟩
 | 36,_=>exact ⟨(zKD (M+4)).1,(zKD M).2⟩
 | 37,_=>exact ⟨(zJU (M+4)).1,(zJU M).2⟩
 | 38,_=>exact ⟨(zMR (M+4)).1,(zMR M).2⟩
 | 39,_=>exact ⟨(zLR (M+4)).1,(zLR M).2⟩
 | 40,_=>exact ⟨(zKW (M+4)).1,(zKW M).2⟩
 | 41,_=>exact ⟨(zLB (M+4)).1,(zLB M).2⟩
 | 42,_=>exact ⟨(zMB (M+4)).1,(zMB M).2⟩
 | 43,_=>exact ⟨(zJV (M+4)).1,(zJV M).2⟩
 | 44,_=>exact ⟨(zK1 (M+4)).1,(zK1 M).2⟩
 | 45,_=>exact ⟨(zJW (M+4)).1,(zJW M).2⟩
 | 46,_=>exact ⟨(zMV (M+4)).1,(zMV M).2⟩
 | 47,_=>exact ⟨(zJZ (M+4)).1,(zJZ M).2⟩
 | 48,_=>exact ⟨(zKU (M+4)).1,(zKU M).2⟩
 | 49,_=>exact ⟨(zKB (M+4)).1,(zKB M).2⟩
 | 50,_=>exact ⟨(zLF (M+4)).1,(zLF M).2⟩
 | 51,_=>exact ⟨(zN4 (M+4)).1,(zN4 M).2⟩
 | 52,_=>exact ⟨(zM9 (M+4)).1,(zM9 M).2⟩
 | 53,_=>exact ⟨(zLV (M+4)).1,(zLV M).2⟩
 | 54,_=>exact ⟨(zME (M+4)).1,(zME M).2⟩
 | 55,_=>exact ⟨(zLJ (M+4)).1,(zLJ M).2⟩
 | 56,_=>exact ⟨(zN0 (M+4)).1,(zN0 M).2⟩
 | 57,_=>exact ⟨(zMM (M+4)).1,(zMM M).2⟩
 | 58,_=>exact ⟨(zM1 (M+4)).1,(zM1 M).2⟩
 | 59,_=>exact ⟨(zMJ (M+4)).1,(zMJ M).2⟩
 | 60,_=>exact ⟨(zM8 (M+4)).1,(zM8 M).2⟩
 | 61,_=>exact ⟨(zMA (M+4)).1,(zMA M).2⟩
 | 62,_=>exact ⟨(zJR (M+4)).1,(zJR M).2⟩
 | 63,_=>exact ⟨(zLP (M+4)).1,(zLP M).2⟩
 | 64,_=>exact ⟨(zN1 (M+4)).1,(zN1 M).2⟩
 | 65,_=>exact ⟨(zML (M+4)).1,(zML M).2⟩
 | 66,_=>exact ⟨(zKR (M+4)).1,(zKR M).2⟩
 | 67,_=>exact ⟨(zKE (M+4)).1,(zKE M).2⟩
 | 68,_=>exact ⟨(zMY (M+4)).1,(zMY M).2⟩
 | 69,_=>exact ⟨(zM3 (M+4)).1,(zM3 M).2⟩
 | 70,_=>exact ⟨(zLC (M+4)).1,(zLC M).2⟩
 | 71,_=>exact ⟨(zJS (M+4)).1,(zJS M).2⟩
 | 72,_=>exact ⟨(zL8 (M+4)).1,(zL8 M).2⟩
 | 73,_=>exact ⟨(zKH (M+4)).1,(zKH M).2⟩
 | 74,_=>exact ⟨(zMU (M+4)).1,(zMU M).2⟩
 | 75,_=>exact ⟨(zN2 (M+4)).1,(zN2 M).2⟩
 | 76,_=>exact ⟨(zMD (M+4)).1,(zMD M).2⟩
 | 77,_=>exact ⟨(zLT (M+4)).1,(zLT M).2⟩
 | 78,_=>exact ⟨(zK4 (M+4)).1,(zK4 M).2⟩
 | 79,_=>exact ⟨(zM7 (M+4)).1,(zM7 M).2⟩
 | 80,_=>exact ⟨(zL4 (M+4)).1,(zL4 M).2⟩
 | n+81,h=>omega
theorem zD2 (n:Nat):(decG n).size<=2:=by
 unfold decG
 split <;> simp [ByteArray.size]
theorem zD9 {x:Int} (h0:0<=x) (h1:x < 256):pConv .u8 x=x:=by
 unfold pConv IntKind.wrap
 have hb:IntKind.u8.bits=8:=rfl
 have hs:IntKind.u8.signed=false:=rfl
 rw [hb,hs]
 have:x % (2 ^ 8:Int)=x:=Int.emod_eq_of_lt h0 (by omega)
 rw [this]
 simp
theorem zLI {x:Int}:pConv .u8 x=x % 256:=by
 unfold pConv IntKind.wrap
 have hb:IntKind.u8.bits=8:=rfl
 have hs:IntKind.u8.signed=false:=rfl
 rw [hb,hs]
 simp
theorem zLL {x:Int} (h0:0<=x) (h1:x < 4294967296):pConv .u32 x=x:=by
 unfold pConv IntKind.wrap
 have hb:IntKind.u32.bits=32:=rfl
 have hs:IntKind.u32.signed=false:=rfl
 rw [hb,hs]
 have:x % (2 ^ 32:Int)=x:=Int.emod_eq_of_lt h0 (by omega)
 rw [this]
 simp
theorem zLH {x:Int} (h0:0<=x) (h1:x < 2147483648):pConv .i32 x=x:=by
 unfold pConv IntKind.wrap
 have hb:IntKind.i32.bits=32:=rfl
 have hs:IntKind.i32.signed=true:=rfl
 rw [hb,hs]
 have:x % (2 ^ 32:Int)=x:=Int.emod_eq_of_lt h0 (by omega)
 rw [this]
 have h2:¬ (x >= (2 ^ (32 - 1):Int)):=by omega
 rw [if_neg (by simp only [Bool.true_and,decide_eq_true_eq];exact h2)]
theorem zFJ {P:Int->Prop} {n:Nat} (h:∀ i:Fin n,P ((i:Nat):Int)) {x:Int} (h0:0<=x) (h1:x < n):P x:=by
 have:=h ⟨x.toNat,by omega⟩
 simpa [Int.toNat_of_nonneg h0] using this
theorem or128 {x:Int} (h0:0<=x) (h1:x < 64):pOr .u8 128 x=128+x:=zFJ (P:=fun x=>pOr .u8 128 x=128+x) (n:=64) (by decide +kernel) h0 h1
theorem or192 {x:Int} (h0:0<=x) (h1:x < 32):pOr .u8 192 x=192+x:=zFJ (P:=fun x=>pOr .u8 192 x=192+x) (n:=32) (by decide +kernel) h0 h1
theorem or224 {x:Int} (h0:0<=x) (h1:x < 16):pOr .u8 224 x=224+x:=zFJ (P:=fun x=>pOr .u8 224 x=224+x) (n:=16) (by decide +kernel) h0 h1
theorem or240 {x:Int} (h0:0<=x) (h1:x < 8):pOr .u8 240 x=240+x:=zFJ (P:=fun x=>pOr .u8 240 x=240+x) (n:=8) (by decide +kernel) h0 h1
end Go.AE.F
