/- Contracts of the library: all in Shelf. -/
import Derived.Test.YtofgajlpdnokdaaGreatDoorShelf
